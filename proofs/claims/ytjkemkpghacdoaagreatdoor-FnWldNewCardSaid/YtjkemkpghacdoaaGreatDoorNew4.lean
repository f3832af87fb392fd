/- The law FnWldNew (part 4 of 6). Conditions: none beyond the statement's own. -/
import Derived.Shelf.Strings.Builder1
import Derived.Test.YtjkemkpghacdoaaGreatDoorProg
import Derived.Lib.AppendIntMem
import Derived.BigCall
import Derived.Lib.ItoaNum
import Derived.Laws.Strings
import Derived.Test.YtjkemkpghacdoaaGreatDoorNew3
set_option linter.unusedVariables false
set_option linter.unusedSimpArgs false
section
namespace Go.AM
open Go Go.RowKit
set_option maxRecDepth 100000
theorem ins_pure {w : World} {Z : Nat → Prop} {io : Option Io} {ins : List (Mode × TV)} {vals : List Value} {fin : List Nat} (h : InsR P w Z io ins vals fin) (hp : ∀ m ∈ ins, m.1 = Mode.pure) : fin = [] ∧ InsR P w Z none ins vals [] ∧ ∀ w' Z', OutsR P w' Z' none ins vals [] [] := by
  induction h with
  | nil => exact ⟨rfl, .nil, fun _ _ => .nil⟩
  | cons h t ih =>
    rename_i m v x f r xs g
    obtain ⟨h1, h2, h3⟩ := ih fun m hm => hp m (List.mem_cons_of_mem _ hm)
    have hm : m = Mode.pure := hp _ (List.mem_cons_self ..)
    subst hm; subst h1
    cases h with
    | pone h => exact ⟨rfl, .cons (f := []) (.pone h) h2, fun w' Z' => .pure (h3 w' Z')⟩
    | pagg h => exact ⟨rfl, .cons (f := []) (.pagg h) h2, fun w' Z' => .pure (h3 w' Z')⟩
theorem sem_pure {f : Nat} {ins : List (Mode × TV)} {res : TV} (hf : ∃ fn, (P : Program).funcs[f]? = some fn ∧ fn.body.isNone = false ∧ (fn.name == "runtime.NumGoroutine") = false) (hp : ∀ m ∈ ins, m.1 = Mode.pure)
    (h : ∀ (w : World) (Z : Nat → Prop) (vals : List Value), GOk P w Z → InsR P w Z none ins vals [] → (∀ b, Z b → b < w.heap.size) →
      Calls P f vals.toArray w fun e w' => ∃ v fs, e = .returned v ∧ Below w.heap.size w w' ∧ (∀ Z', ResR P w' Z' res v fs) ∧ fs.Nodup ∧ ∀ b ∈ fs, w.heap.size ≤ b ∧ b < w'.heap.size) : Sem P f ins [] res := by
  refine ⟨hf, fun w Z io vals fin hG hI hio hnd hfin hZ => ?_⟩
  obtain ⟨rfl, hI', ho⟩ := ins_pure hI hp
  have hio : io = none := by
    rcases hio with h | ⟨lo, hi, v, hm⟩
    · exact h
    · cases hp _ hm
  subst hio
  refine (h w Z vals hG hI' fun b hb => (hZ b hb).1).mono ?_
  rintro e w' ⟨v, fs, rfl, hb, hr, hn, hfs⟩
  refine ⟨v, rfl, Z, fs, [], ⟨hb.os, hb.tape, hb.output, hb.size, fun k hk _ _ => hb.block k hk, fun i hi => by cases hi⟩, fun b hb => hb, fun b hz => ⟨.inl hz, Nat.lt_of_lt_of_le (hZ b hz).1 hb.size, fun i hi => by cases hi⟩, hr Z, ho _ _, by simpa using hn, fun b hbm => ?_⟩
  have hbm : b ∈ fs := by simpa using hbm
  exact ⟨.inr (hfs b hbm).1, (hfs b hbm).2, fun hz => absurd (hZ b hz).1 (Nat.not_lt.2 (hfs b hbm).1), fun i hi => by cases hi⟩
theorem ins_one {w : World} {Z : Nat → Prop} {io : Option Io} {av : AV} {vals : List Value} {fin : List Nat} (h : InsR P w Z io [(.pure, .one av)] vals fin) : ∃ x, vals = [x] ∧ Rd P w Z av x := by
  cases h with
  | cons h t => cases t; cases h with | pone h => exact ⟨_, rfl, h⟩
theorem ints_flat : ∀ l : List Int, (ints l).flatten = l.map fun n => eI n
  | [] => rfl
  | a :: r => by show eI a :: (ints r).flatten = _; rw [ints_flat r]; rfl
theorem cells_int : (P : Program).cellsOf 3 = 1 := by kernel_rfl
theorem ow_ints {w : World} {Z : Nat → Prop} {v : Value} {l : List Int} {n B : Nat} {cells : List Value} (hm : l.length ≤ 1125899906842624) (ho : w.ownsRow B 3 1 v n cells) (hn : n = l.length) (hc : cells = l.map (Value.int .i64)) : Ow P w Z (.sl 3 (ints l)) v v.ownBlock.toList := by
  subst hn hc
  have h : Ow P w Z (.sl 3 (ints l)) v (v.ownBlock.toList ++ (List.replicate l.length ([] : List Nat)).flatten) := by
    refine .sl (cells := l.map (Value.int .i64)) (by simpa using hm) (by intro row hr; obtain ⟨x, _, rfl⟩ := List.mem_map.1 hr; rw [cells_int]; rfl) ?_ (by simp) ?_
    · rw [cells_int, ints_len]
      refine ⟨ho.1, ?_⟩
      rcases ho.2 with h | ⟨g, cap, cur, h1, h2, h3⟩
      · exact .inl h
      · exact .inr ⟨g, cap, cur, h1, Nat.zero_le _, h3⟩
    · intro k av x f h1 h2 h3
      rw [ints_flat] at h1
      simp only [List.getElem?_map] at h1 h2
      cases hl : l[k]? with
      | none => rw [hl] at h1; cases h1
      | some n =>
        rw [hl] at h1 h2
        obtain rfl := Option.some.inj h1
        obtain rfl := Option.some.inj h2
        have : f = [] := List.eq_of_mem_replicate (List.mem_of_getElem? h3)
        subst this
        exact .prim rfl
  simpa using h
theorem rd_ints {w : World} {Z : Nat → Prop} {v : Value} {l : List Int} (h : Rd P w Z (.sl 3 (ints l)) v) : ∃ a cap, v = .slice a l.length cap ∧ (l ≠ [] → ∃ b o, a = some ⟨b, o, none⟩) ∧ ∀ b o, a = some ⟨b, o, none⟩ → ∀ j, j < l.length → w.cell? ⟨b, o + j, none⟩ = some (.int .i64 (l.getD j 0)) := by
  cases h with
  | sl hm hl hcap hw hn hb hc hr =>
    rename_i a len cap cells
    subst hl
    rw [ints_len] at *
    refine ⟨a, cap, rfl, fun hl => ?_, fun b o e j hj => ?_⟩
    · obtain ⟨b, o, e', _⟩ := hb (by simpa using hl)
      exact ⟨b, o, e'⟩
    · rw [cells_int, Nat.mul_one] at hn
      have hj' : j < cells.length := by omega
      have h1 := hr j (eI (l.getD j 0)) cells[j] (by rw [ints_flat, List.getElem?_map, List.getElem?_eq_getElem hj, List.getD_eq_getElem?_getD, List.getElem?_eq_getElem hj]; rfl) (List.getElem?_eq_getElem hj')
      have h2 := hc b o j cells[j] e (List.getElem?_eq_getElem hj')
      generalize cells[j] = x at h1 h2
      cases h1
      exact h2
theorem ownB_nodup (v : Value) : v.ownBlock.toList.Nodup := by cases v.ownBlock <;> simp
theorem ownB_new {w : World} {B e size n : Nat} {v : Value} {xs : List Value} (h : w.ownsRow B e size v n xs) : ∀ b ∈ v.ownBlock.toList, B ≤ b ∧ b < w.heap.size := by
  intro b hb
  rcases h.2 with ⟨rfl, _⟩ | ⟨g, cap, cur, rfl, h1, h2, _⟩
  · simp [Value.ownBlock] at hb
  · simp [Value.ownBlock] at hb
    subst hb
    exact ⟨h1, (Array.getElem?_eq_some_iff.1 h2).1⟩
theorem ints_clone (l : List Int) (hl : l.length ≤ 100000) : Sem P 77 [(.pure, .one (.sl 3 (ints l)))] [] (.one (.sl 3 (ints l))) := by
  refine sem_pure (by refine ⟨Go.Proofs.Tryz.f77, ?_, ?_, ?_⟩ <;> kernel_rfl) (by simp) fun w Z vals hG hI hZ => ?_
  obtain ⟨x, rfl, hx⟩ := ins_one hI
  obtain ⟨a, cap, rfl, h0, hc⟩ := rd_ints hx
  cases a with
  | none =>
    have hl0 : l = [] := by
      by_cases hl : l = []
      · exact hl
      · obtain ⟨b, o, e⟩ := h0 hl; cases e
    subst hl0
    refine (Go.Proofs.Tryz.slices_Clone_int_nil _ _ w).mono ?_
    rintro e w' ⟨rfl, rfl⟩
    exact ⟨_, [], rfl, Below.refl _ _, fun Z' => .one (ow_ints (cells := []) (B := 0) (by simp) (World.ownsRow_nil _ _ _ _) rfl rfl), by simp, by simp⟩
  | some p =>
    by_cases hl0 : l = []
    · subst hl0
      refine (Go.Proofs.Tryz.slices_Clone_int_zero p _ w).mono ?_
      rintro e w' ⟨v, rfl, ho, hn, hb⟩
      refine ⟨v, v.ownBlock.toList, rfl, hb, fun Z' => .one (ow_ints (by simp) ho rfl rfl), ownB_nodup _, ownB_new ho⟩
    · obtain ⟨b, o, e⟩ := h0 hl0
      obtain rfl := Option.some.inj e
      refine (Go.Proofs.Tryz.slices_Clone_int b o l.length cap l w (Nat.le_refl _) (by omega) (hc b o rfl)).mono ?_
      rintro e w' ⟨v, rfl, ho, hn, hb⟩
      refine ⟨v, v.ownBlock.toList, rfl, hb, fun Z' => .one (ow_ints (by omega) ho rfl (by simp)), ownB_nodup _, ownB_new ho⟩
end Go.AM
end
section
namespace Cc
open Go Go.AM
set_option maxRecDepth 100000
set_option maxHeartbeats 4000000
theorem dot_take : ∀ {a b : List Int} {i : Nat}, i < a.length → i < b.length → dot (a.take (i + 1)) (b.take (i + 1)) = dot (a.take i) (b.take i) + a.getD i 0 * b.getD i 0
  | [], _, _, h, _ => by simp at h
  | _ :: _, [], _, _, h => by simp at h
  | x :: a, y :: b, 0, _, _ => by simp [dot]
  | x :: a, y :: b, i + 1, h, h' => by
    have := dot_take (a := a) (b := b) (i := i) (by simpa using h) (by simpa using h')
    simp only [List.take_succ_cons, dot, List.getD_cons_succ] at this ⊢
    omega
theorem getD_bd {l : List Int} {m : Int} (h : ∀ x ∈ l, -m ≤ x ∧ x ≤ m) {i : Nat} (hi : i < l.length) : -m ≤ l.getD i 0 ∧ l.getD i 0 ≤ m := by
  rw [List.getD_eq_getElem?_getD, List.getElem?_eq_getElem hi]
  exact h _ (List.getElem_mem hi)
theorem impl_dot (a b : List Int) (hl : a.length ≤ 3) (hab : a.length = b.length) (ha : ∀ x ∈ a, -10000000 ≤ x ∧ x ≤ 10000000) (hb' : ∀ x ∈ b, -10000000000 ≤ x ∧ x ≤ 10000000000) : Sem P 187 [(.pure, AI a), (.pure, AI b)] [] (I (dot a b)) := by
  refine fn_okR (E := E0) E0_tab E0_ord (fn := Go.Proofs.Tryz.f187) (by kernel_rfl) (by kernel_rfl) (fun hb => ?_)
  have la := ints_len a
  have lb := ints_len b
  conv => whnf
  (repeat' first | ((first | refine Sq.cons ?_ | refine Dr.cons ?_ | refine Sq.nil ?_ | (refine Dr.nil ?_; refine drawIf (by kernel_rfl) ?_) | refine Vc.region rfl ?_ | refine Vc.draw rfl (by kernel_rfl) ?_ | refine Vc.cond ?_ | refine Vc.block ?_ | refine Vc.ret ?_ | refine Vc.skip ?_ | refine Vc.exit ?_ | refine mkSl (by omega) (by omega) ?_); conv => whnf) | refine Vc.seq ?_)
  refine Vc.loop2 (fun (i : Nat) (n : Int) => i ≤ a.length ∧ n = dot (a.take i) (b.take i) ∧ -(i * 100000000000000000 : Int) ≤ n ∧ n ≤ i * 100000000000000000) (fun i n => updL [1, 4, 8, 9, 24] [(10, I i), (5, I n)] []) (fun i _ => a.length - i) 0 0 ⟨by omega, by simp [dot], by simp, by simp⟩ ?_ (fun i n hi => ?_)
  · repeat' (first | exact True.intro | ((conv => whnf); first | exact True.intro | refine ⟨by rfl, ?_⟩ | refine ⟨?_, ?_⟩))
  · obtain ⟨hi, hn, h1, h2⟩ := hi
    conv => whnf
    (repeat' first | ((first | refine Sq.cons ?_ | refine Dr.cons ?_ | refine Sq.nil ?_ | (refine Dr.nil ?_; refine drawIf (by kernel_rfl) ?_) | refine Vc.region rfl ?_ | refine Vc.draw rfl (by kernel_rfl) ?_ | refine Vc.cond ?_ | refine Vc.block ?_ | refine Vc.ret ?_ | refine Vc.skip ?_ | refine Vc.exit ?_ | refine mkSl (by omega) (by omega) ?_); conv => whnf) | refine Vc.seq ?_)
    refine ifB_d (fun g => ?_) (fun g => ?_)
    all_goals conv => whnf
    · have e := dot_take (a := a) (b := b) (i := i) (by omega) (by omega)
      have p := mul_bd (getD_bd ha (i := i) (by omega)) (getD_bd hb' (i := i) (by omega))
      repeat' first | ((first | refine Sq.cons ?_ | refine Dr.cons ?_ | refine Sq.nil ?_ | (refine Dr.nil ?_; refine drawIf (by kernel_rfl) ?_) | refine Vc.region rfl ?_ | refine Vc.draw rfl (by kernel_rfl) ?_ | refine Vc.cond ?_ | refine Vc.block ?_ | refine Vc.ret ?_ | refine Vc.skip ?_ | refine Vc.exit ?_ | refine mkSl (by omega) (by omega) ?_); conv => whnf) | refine Vc.seq ?_ | (refine ifB_i (fun _ => ?_) (fun _ => ?_) <;> conv => whnf) | (refine ixN (enc := rI) 0 (by omega) ?_; conv => whnf) | (refine w64 (by omega) (by omega) ?_; conv => whnf)
      refine ⟨i + 1, n + a.getD i 0 * b.getD i 0, ⟨by omega, by omega, by omega, by omega⟩, by simp only; omega, ?_⟩
      repeat' (first | exact True.intro | ((conv => whnf); first | exact True.intro | refine ⟨by rfl, ?_⟩ | refine ⟨?_, ?_⟩))
    · (repeat' first | ((first | refine Sq.cons ?_ | refine Dr.cons ?_ | refine Sq.nil ?_ | (refine Dr.nil ?_; refine drawIf (by kernel_rfl) ?_) | refine Vc.region rfl ?_ | refine Vc.draw rfl (by kernel_rfl) ?_ | refine Vc.cond ?_ | refine Vc.block ?_ | refine Vc.ret ?_ | refine Vc.skip ?_ | refine Vc.exit ?_ | refine mkSl (by omega) (by omega) ?_); conv => whnf) | refine Vc.seq ?_)
      have e : i = a.length := by omega
      subst e
      rw [List.take_length, hab, List.take_length] at hn
      exact rI' hn
theorem dot_bd {a b : List Int} (hl : a.length ≤ 3) {m k : Int} (ha : ∀ x ∈ a, -m ≤ x ∧ x ≤ m) (hb : ∀ x ∈ b, -k ≤ x ∧ x ≤ k) (hm : 0 ≤ m * k) : -(3 * (m * k)) ≤ dot a b ∧ dot a b ≤ 3 * (m * k) := by
  match a, b, hl with
  | [], _, _ => simp [dot]; omega
  | _ :: _, [], _ => simp [dot]; omega
  | [x], y :: b, _ =>
    have := mul_bd (ha x (by simp)) (hb y (by simp))
    simp only [dot]; omega
  | [x, x'], [y], _ =>
    have := mul_bd (ha x (by simp)) (hb y (by simp))
    simp only [dot]; omega
  | [x, x'], y :: y' :: b, _ =>
    have := mul_bd (ha x (by simp)) (hb y (by simp))
    have := mul_bd (ha x' (by simp)) (hb y' (by simp))
    simp only [dot]; omega
  | [x, x', x''], [y], _ =>
    have := mul_bd (ha x (by simp)) (hb y (by simp))
    simp only [dot]; omega
  | [x, x', x''], [y, y'], _ =>
    have := mul_bd (ha x (by simp)) (hb y (by simp))
    have := mul_bd (ha x' (by simp)) (hb y' (by simp))
    simp only [dot]; omega
  | [x, x', x''], y :: y' :: y'' :: b, _ =>
    have := mul_bd (ha x (by simp)) (hb y (by simp))
    have := mul_bd (ha x' (by simp)) (hb y' (by simp))
    have := mul_bd (ha x'' (by simp)) (hb y'' (by simp))
    simp only [dot]; omega
theorem impl_at (f : Form) (vals args : List Int) (hf : f.bd 10000000) (hv : nums vals 3) (ha : nums args 2) : Sem P 84 [(.pure, .agg (aF f)), (.pure, AI vals), (.pure, AI args)] [] (I (f.at vals args)) := by
  have b1 := dot_bd (a := f.C) (b := vals) (by rw [hf.1.1]; decide) hf.2.1 hv.2 (by decide)
  have b2 := dot_bd (a := f.D) (b := args) (by rw [hf.1.2]; decide) hf.2.2.1 ha.2 (by decide)
  have b3 := hf.2.2.2
  refine fn_okR (E := E0) E0_tab E0_ord (fn := Go.Proofs.Tryz.f84) (by kernel_rfl) (by kernel_rfl) (fun hb => ?_)
  conv => whnf
  repeat' first | ((first | refine Sq.cons ?_ | refine Dr.cons ?_ | refine Sq.nil ?_ | (refine Dr.nil ?_; refine drawIf (by kernel_rfl) ?_) | refine Vc.region rfl ?_ | refine Vc.draw rfl (by kernel_rfl) ?_ | refine Vc.cond ?_ | refine Vc.block ?_ | refine Vc.ret ?_ | refine Vc.skip ?_ | refine Vc.exit ?_ | refine mkSl (by omega) (by omega) ?_); conv => whnf) | refine Vc.seq ?_ | (refine ifB_i (fun _ => ?_) (fun _ => ?_) <;> conv => whnf) | (refine ⟨_, impl_dot f.C vals (by rw [hf.1.1]; decide) (by rw [hf.1.1, hv.1]) hf.2.1 hv.2, ?_⟩; conv => whnf) | (refine ⟨_, impl_dot f.D args (by rw [hf.1.2]; decide) (by rw [hf.1.2, ha.1]) hf.2.2.1 ha.2, ?_⟩; conv => whnf) | (refine w64 (by omega) (by omega) ?_; conv => whnf)
  exact ⟨rfl, rfl⟩
theorem go_at (args : List Int) {act : List Line} {i : Nat} (own tells : List Int) (h : i < act.length) : goLines args (act.drop i) own tells =
    if (act.getD i default).Kind = 4 then none
    else if (act.getD i default).Kind = 1 then (if (act.getD i default).Form.at own args < 0 then goLines args (act.drop (i + 1 + (act.getD i default).Skip.toNat)) own tells else goLines args (act.drop (i + 1)) own tells)
    else if (act.getD i default).Kind = 2 then goLines args (act.drop (i + 1)) (own.set (act.getD i default).Pot.toNat (own.getD (act.getD i default).Pot.toNat 0 + (act.getD i default).Form.at own args)) tells
    else goLines args (act.drop (i + 1)) own (tells ++ [(act.getD i default).Form.at own args]) := by
  rw [List.drop_eq_getElem_cons h, goLines, List.drop_drop]
  have e : act.getD i default = act[i] := by rw [List.getD_eq_getElem?_getD, List.getElem?_eq_getElem h]; rfl
  rw [e]
theorem go_end (args : List Int) {act : List Line} {i : Nat} (own tells : List Int) (h : act.length ≤ i) : goLines args (act.drop i) own tells = some (own, tells) := by
  rw [List.drop_eq_nil_of_le h, goLines]
def bnd : Nat → Int
  | 0 => 10000
  | k + 1 => 7 * bnd k + 74
theorem bnd_ge : ∀ k, 10000 ≤ bnd k
  | 0 => by decide
  | k + 1 => by have := bnd_ge k; simp only [bnd]; omega
theorem bnd_mono {i j : Nat} (h : i ≤ j) : bnd i ≤ bnd j := by
  induction j with
  | zero => obtain rfl : i = 0 := by omega
            exact Int.le_refl _
  | succ j ih =>
    by_cases e : i = j + 1
    · rw [e]; exact Int.le_refl _
    · have := ih (by omega)
      have := bnd_ge j
      simp only [bnd]; omega
theorem bnd_le {i : Nat} (h : i ≤ 6) : bnd i ≤ 2000000000 := Int.le_trans (bnd_mono h) (by decide)
def potsB (own : List Int) (i : Nat) : Prop := own.length = 3 ∧ ∀ x ∈ own, -bnd i ≤ x ∧ x ≤ bnd i
theorem potsB.nums {own : List Int} {i : Nat} (h : potsB own i) (hi : i ≤ 6) : nums own 3 := ⟨h.1, fun x hx => by have := h.2 x hx; have := bnd_le hi; omega⟩
theorem potsB.mono {own : List Int} {i j : Nat} (h : potsB own i) (hi : i ≤ j) : potsB own j := ⟨h.1, fun x hx => by have := h.2 x hx; have := bnd_mono hi; omega⟩
theorem potsB.zero {own : List Int} (h : valOk own = true) : potsB own 0 := by
  obtain ⟨h1, h2⟩ := within_iff.1 h
  exact ⟨h1, fun x hx => h2 x hx⟩
theorem arg_nums {args : List Int} (h : argOk args = true) : nums args 2 := by
  obtain ⟨h1, h2⟩ := within_iff.1 h
  exact ⟨h1, fun x hx => by have := h2 x hx; omega⟩
theorem arg_bd {args : List Int} (h : argOk args = true) : ∀ x ∈ args, -9 ≤ x ∧ x ≤ 9 := (within_iff.1 h).2
theorem line_form {x : Line} (h : x.ok = true) (h4 : ¬ x.Kind = 4) : x.Form.small = true := by
  unfold Line.ok at h
  split at h
  · simp at h; exact h.2
  · split at h
    · simp at h; exact h.2
    · split at h
      · simp at h; exact h.2
      · simp_all
theorem small_form {f : Form} (h : f.small = true) : f.bd 10000000 ∧ (∀ x ∈ f.C, -2 ≤ x ∧ x ≤ 2) ∧ (∀ x ∈ f.D, -2 ≤ x ∧ x ≤ 2) ∧ -20 ≤ f.K ∧ f.K ≤ 20 := by
  obtain ⟨a, b, c, d, e, k, rfl, ha, hb, hc, hd, he, hk⟩ := small_bd h
  refine ⟨bdI (by omega) (by omega) (by omega) (by omega) (by omega) (by omega), by simp; omega, by simp; omega, by simp; omega⟩
theorem at_small {f : Form} {own args : List Int} {i : Nat} (hf : f.small = true) (ho : potsB own i) (ha : argOk args = true) : -(6 * bnd i + 74) ≤ f.at own args ∧ f.at own args ≤ 6 * bnd i + 74 := by
  obtain ⟨h0, h1, h2, h3⟩ := small_form hf
  have hb := bnd_ge i
  have p1 := dot_bd (a := f.C) (b := own) (by rw [h0.1.1]; decide) h1 ho.2 (by omega)
  have p2 := dot_bd (a := f.D) (b := args) (by rw [h0.1.2]; decide) h2 (arg_bd ha) (by decide)
  simp only [Form.at]; omega
theorem potsB.set {own : List Int} {i : Nat} {p : Nat} {n : Int} (h : potsB own i) (hn : -(6 * bnd i + 74) ≤ n ∧ n ≤ 6 * bnd i + 74) (hp : p < 3) : potsB (own.set p (own.getD p 0 + n)) (i + 1) := by
  have hb := bnd_ge i
  have hq := getD_bd h.2 (i := p) (by rw [h.1]; exact hp)
  refine ⟨by rw [List.length_set]; exact h.1, fun x hx => ?_⟩
  rcases List.mem_or_eq_of_mem_set hx with h' | rfl
  · have := h.2 x h'; simp only [bnd]; omega
  · simp only [bnd]; omega
end Cc
end
section
namespace Cc
open Go Go.AM
set_option maxRecDepth 100000
set_option maxHeartbeats 4000000
theorem ixE {α : Type} {L : List α} {enc : α → List AV} {i : Nat} {x : α} {k : List AV → Prop} (h : L[i]? = some x) (hk : k (enc x)) : 0 ≤ (i : Int) ∧ ∃ row, (L.map enc)[((i : Int)).toNat]? = some row ∧ k row :=
  ⟨by omega, _, by rw [Int.toNat_natCast, List.getElem?_map, h]; rfl, hk⟩
theorem prim_ints (l : List Int) : allPrim (ints l) := by
  intro row hr a ha
  obtain ⟨n, _, rfl⟩ := List.mem_map.1 hr
  exact ⟨_, List.mem_singleton.1 ha⟩
theorem apP {r : List (List AV)} {k q : Prop} (h : allPrim r) (hk : k) : allPrim r ∧ k ∨ q := .inl ⟨h, hk⟩
theorem set_ints (l : List Int) (i : Nat) (n : Int) : (ints l).set i (rI n) = ints (l.set i n) := List.map_set.symm
theorem app_ints (l : List Int) (n : Int) : ints l ++ [rI n] = ints (l ++ [n]) := by simp
theorem apN {a : Nat} {k : Prop} (h : a ≤ 1048576) (hk : k) : a ≤ 1048576 ∧ k := ⟨h, hk⟩
theorem impl_actRun (act : List Line) (vals args : List Int) : Sem P 18 [(.pure, .one (sLs act)), (.pure, AI vals), (.pure, AI args)] [] (.tup [(true, aR (actRun act vals args).1), (false, [sI (actRun act vals args).2])]) := by
  refine fn_okR (E := { E0 with keep := [4001, 11002, 22002] }) E0_tab E0_ord (fn := Go.Proofs.Tryz.f18) (by kernel_rfl) (by kernel_rfl) (fun hb => ?_)
  have la : (act.map eL).length = act.length := List.length_map ..
  by_cases hall : (actOk act && valOk vals && argOk args) = true
  · obtain ⟨⟨ha, hv⟩, hg⟩ : (actOk act = true ∧ valOk vals = true) ∧ argOk args = true := by simpa using hall
    have hlen : vals.length ≤ 100000 := by rw [(potsB.zero hv).1]; decide
    have e0 : actRun act vals args = endOf vals (goLines args act vals []) := by rw [actRun, if_pos hall]
    obtain ⟨hlines, h6, _⟩ := actOk_iff.1 ha
    rw [e0]
    conv => whnf
    repeat' first | ((first | refine Sq.cons ?_ | refine Dr.cons ?_ | refine Sq.nil ?_ | (refine Dr.nil ?_; refine drawIf (by kernel_rfl) ?_) | refine Vc.region rfl ?_ | refine Vc.draw rfl (by kernel_rfl) ?_ | refine Vc.cond ?_ | refine Vc.block ?_ | refine Vc.ret ?_ | refine Vc.skip ?_ | refine Vc.exit ?_ | refine mkSl (by omega) (by omega) ?_); conv => whnf) | refine Vc.seq ?_ | (refine ifB_i (fun _ => ?_) (fun _ => ?_) <;> conv => whnf) | (refine ⟨_, impl_actOk _, ?_⟩; conv => whnf) | (refine ⟨_, impl_valOk _, ?_⟩; conv => whnf) | (refine ⟨_, impl_argOk _, ?_⟩; conv => whnf) | (refine ⟨_, ints_clone vals hlen, ?_⟩; conv => whnf)
    · rename_i h; rw [ha] at h; cases h
    · rename_i h; rw [hv] at h; cases h
    · rename_i h; rw [hg] at h; cases h
    · refine Vc.loop3 (fun (i : Nat) (own tells : List Int) => i ≤ 12 ∧ potsB own (min i 6) ∧ tells.length ≤ i ∧ goLines args act vals [] = goLines args (act.drop i) own tells) (fun i own tells => updL [0, 1, 2, 6, 8, 76, 77, 78, 79, 80, 81, 82, 83, 84] [(10, I i), (9, .one (.ref 320000))] [(256064, .arr 3 (ints own) false), (320000, .arr 3 (ints tells) false)]) (fun i _ _ => 12 - i) 0 vals [] ⟨by omega, potsB.zero hv, by simp, rfl⟩ ?_ (fun i own tells hi => ?_)
      · repeat' (first | exact True.intro | ((conv => whnf); first | exact True.intro | refine ⟨by rfl, ?_⟩ | refine ⟨?_, ?_⟩))
      · obtain ⟨hi, ho, ht, hgo⟩ := hi
        have lt := ints_len tells
        conv => whnf
        (repeat' first | ((first | refine Sq.cons ?_ | refine Dr.cons ?_ | refine Sq.nil ?_ | (refine Dr.nil ?_; refine drawIf (by kernel_rfl) ?_) | refine Vc.region rfl ?_ | refine Vc.draw rfl (by kernel_rfl) ?_ | refine Vc.cond ?_ | refine Vc.block ?_ | refine Vc.ret ?_ | refine Vc.skip ?_ | refine Vc.exit ?_ | refine mkSl (by omega) (by omega) ?_); conv => whnf) | refine Vc.seq ?_)
        refine ifB_d (fun g => ?_) (fun g => ?_)
        all_goals conv => whnf
        · have hi6 : i < act.length := by omega
          have hm : min i 6 = i := by omega
          rw [hm] at ho
          rw [go_at args own tells hi6] at hgo
          obtain ⟨x, hxi⟩ : ∃ x, act[i]? = some x := ⟨_, List.getElem?_eq_getElem hi6⟩
          have hx : x.ok = true := hlines _ (List.mem_of_getElem? hxi)
          have ex : act.getD i default = x := by rw [List.getD_eq_getElem?_getD, hxi]; rfl
          rw [ex] at hgo
          have hkind := line_kind hx
          have hsk := line_skip hx
          have hpo := line_pot hx
          have hfo := line_form hx
          obtain ⟨kind, pot, skip, form⟩ := x
          simp only at hkind hsk hpo hfo hgo
          rcases hkind with rfl | rfl | rfl | rfl
          · have hs := hfo (by decide)
            have hsk := hsk rfl
            have q := at_small hs ho hg
            simp only [Int.reduceEq, if_false, if_true] at hgo
            repeat' first | ((first | refine Sq.cons ?_ | refine Dr.cons ?_ | refine Sq.nil ?_ | (refine Dr.nil ?_; refine drawIf (by kernel_rfl) ?_) | refine Vc.region rfl ?_ | refine Vc.draw rfl (by kernel_rfl) ?_ | refine Vc.cond ?_ | refine Vc.block ?_ | refine Vc.ret ?_ | refine Vc.skip ?_ | refine Vc.exit ?_ | refine mkSl (by omega) (by omega) ?_); conv => whnf) | refine Vc.seq ?_ | (refine ifB_i (fun _ => ?_) (fun _ => ?_) <;> conv => whnf) | (refine ixE (enc := eL) hxi ?_; conv => whnf) | (refine ⟨_, impl_at form own args (small_form hs).1 (ho.nums (by omega)) (arg_nums hg), ?_⟩; conv => whnf) | (refine w64 (by first | omega | (dsimp only; omega)) (by first | omega | (dsimp only; omega)) ?_; conv => whnf)
            · rename_i h
              have h : form.at own args < 0 := by simpa using h
              rw [if_pos h] at hgo
              refine ⟨i + 1 + skip.toNat, own, tells, ⟨by omega, ho.mono (by omega), by omega, hgo⟩, by simp only; omega, ?_⟩
              repeat' (first | exact True.intro | ((conv => whnf); first | exact True.intro | refine ⟨by rfl, ?_⟩ | refine ⟨by first | omega | (show (_ : Int) = _; first | omega | (dsimp only; omega)), ?_⟩ | refine ⟨?_, ?_⟩))
            · rename_i h
              have h : ¬ form.at own args < 0 := by simpa using h
              rw [if_neg h] at hgo
              refine ⟨i + 1, own, tells, ⟨by omega, ho.mono (by omega), by omega, hgo⟩, by simp only; omega, ?_⟩
              repeat' (first | exact True.intro | ((conv => whnf); first | exact True.intro | refine ⟨by rfl, ?_⟩ | refine ⟨?_, ?_⟩))
          · have hs := hfo (by decide)
            have hpo := hpo rfl
            have q := at_small hs ho hg
            have q2 := getD_bd ho.2 (i := pot.toNat) (by rw [ho.1]; omega)
            have q3 := bnd_le (i := i) (by omega)
            have lo := ho.1
            simp only [Int.reduceEq, if_false, if_true] at hgo
            repeat' first | ((first | refine Sq.cons ?_ | refine Dr.cons ?_ | refine Sq.nil ?_ | (refine Dr.nil ?_; refine drawIf (by kernel_rfl) ?_) | refine Vc.region rfl ?_ | refine Vc.draw rfl (by kernel_rfl) ?_ | refine Vc.cond ?_ | refine Vc.block ?_ | refine Vc.ret ?_ | refine Vc.skip ?_ | refine Vc.exit ?_ | refine mkSl (by omega) (by omega) ?_); conv => whnf) | refine Vc.seq ?_ | (refine ifB_i (fun _ => ?_) (fun _ => ?_) <;> conv => whnf) | (refine ixE (enc := eL) hxi ?_; conv => whnf) | (refine ⟨_, impl_at form own args (small_form hs).1 (ho.nums (by omega)) (arg_nums hg), ?_⟩; conv => whnf) | (refine w64 (by first | omega | (dsimp only; omega)) (by first | omega | (dsimp only; omega)) ?_; conv => whnf) | (refine ioN (by first | omega | (dsimp only; omega)) (by rw [ints_len]; dsimp only; omega) ?_; conv => whnf) | (refine rwN (enc := rI) 0 (by first | omega | (dsimp only; omega)) ?_; conv => whnf) | (refine ixI (enc := rI) 0 (by first | omega | (dsimp only; omega)) (by first | omega | (dsimp only; omega)) ?_; conv => whnf)
            refine ⟨i + 1, own.set pot.toNat (own.getD pot.toNat 0 + form.at own args), tells, ⟨by omega, by rw [show min (i + 1) 6 = i + 1 by omega]; exact ho.set q (by omega), by omega, hgo⟩, by simp only; omega, ?_⟩
            repeat' (first | exact True.intro | ((conv => whnf); first | exact True.intro | refine ⟨by rfl, ?_⟩ | refine ⟨by first | omega | (show (_ : Int) = _; first | omega | (dsimp only; omega)) | exact set_ints _ _ _, ?_⟩ | refine ⟨?_, ?_⟩))
          · have hs := hfo (by decide)
            have q := at_small hs ho hg
            simp only [Int.reduceEq, if_false, if_true] at hgo
            repeat' first | ((first | refine Sq.cons ?_ | refine Dr.cons ?_ | refine Sq.nil ?_ | (refine Dr.nil ?_; refine drawIf (by kernel_rfl) ?_) | refine Vc.region rfl ?_ | refine Vc.draw rfl (by kernel_rfl) ?_ | refine Vc.cond ?_ | refine Vc.block ?_ | refine Vc.ret ?_ | refine Vc.skip ?_ | refine Vc.exit ?_ | refine mkSl (by omega) (by omega) ?_); conv => whnf) | refine Vc.seq ?_ | (refine ifB_i (fun _ => ?_) (fun _ => ?_) <;> conv => whnf) | (refine ixE (enc := eL) hxi ?_; conv => whnf) | (refine ⟨_, impl_at form own args (small_form hs).1 (ho.nums (by omega)) (arg_nums hg), ?_⟩; conv => whnf) | (refine w64 (by first | omega | (dsimp only; omega)) (by first | omega | (dsimp only; omega)) ?_; conv => whnf) | (refine apN (by simp; omega) ?_; conv => whnf) | (refine apP (prim_ints _) ?_; conv => whnf)
            refine ⟨i + 1, own, tells ++ [form.at own args], ⟨by omega, ho.mono (by omega), by rw [List.length_append]; simp; omega, hgo⟩, by simp only; omega, ?_⟩
            repeat' (first | exact True.intro | ((conv => whnf); first | exact True.intro | refine ⟨by rfl, ?_⟩ | refine ⟨by first | omega | (show (_ : Int) = _; first | omega | (dsimp only; omega)) | exact app_ints _ _, ?_⟩ | refine ⟨?_, ?_⟩))
          · simp only [Int.reduceEq, if_false, if_true] at hgo
            repeat' first | ((first | refine Sq.cons ?_ | refine Dr.cons ?_ | refine Sq.nil ?_ | (refine Dr.nil ?_; refine drawIf (by kernel_rfl) ?_) | refine Vc.region rfl ?_ | refine Vc.draw rfl (by kernel_rfl) ?_ | refine Vc.cond ?_ | refine Vc.block ?_ | refine Vc.ret ?_ | refine Vc.skip ?_ | refine Vc.exit ?_ | refine mkSl (by omega) (by omega) ?_); conv => whnf) | refine Vc.seq ?_ | (refine ifB_i (fun _ => ?_) (fun _ => ?_) <;> conv => whnf) | (refine ixE (enc := eL) hxi ?_; conv => whnf) | (refine ⟨_, ints_clone vals hlen, ?_⟩; conv => whnf)
            exact ⟨by rw [hgo]; rfl, rfl⟩
        · rw [go_end args own tells (by omega)] at hgo
          repeat' first | ((first | refine Sq.cons ?_ | refine Dr.cons ?_ | refine Sq.nil ?_ | (refine Dr.nil ?_; refine drawIf (by kernel_rfl) ?_) | refine Vc.region rfl ?_ | refine Vc.draw rfl (by kernel_rfl) ?_ | refine Vc.cond ?_ | refine Vc.block ?_ | refine Vc.ret ?_ | refine Vc.skip ?_ | refine Vc.exit ?_ | refine mkSl (by omega) (by omega) ?_); conv => whnf) | refine Vc.seq ?_ | (refine ifB_i (fun _ => ?_) (fun _ => ?_) <;> conv => whnf) | (refine ⟨_, impl_valOk own, ?_⟩; conv => whnf) | (refine ⟨_, ints_clone vals hlen, ?_⟩; conv => whnf)
          · rename_i h
            have h : valOk own = false := by simpa using h
            exact ⟨by rw [hgo, endOf, if_neg (by simp [h])]; rfl, rfl⟩
          · rename_i h
            have h : valOk own = true := by simpa using h
            exact ⟨by rw [hgo, endOf, if_pos h]; rfl, rfl⟩
  · have e0 : actRun act vals args = (Rslt.nil, []) := by rw [actRun, if_neg hall]
    rw [e0]
    conv => whnf
    repeat' first | ((first | refine Sq.cons ?_ | refine Dr.cons ?_ | refine Sq.nil ?_ | (refine Dr.nil ?_; refine drawIf (by kernel_rfl) ?_) | refine Vc.region rfl ?_ | refine Vc.draw rfl (by kernel_rfl) ?_ | refine Vc.cond ?_ | refine Vc.block ?_ | refine Vc.ret ?_ | refine Vc.skip ?_ | refine Vc.exit ?_ | refine mkSl (by omega) (by omega) ?_); conv => whnf) | refine Vc.seq ?_ | (refine ifB_i (fun _ => ?_) (fun _ => ?_) <;> conv => whnf) | (refine ⟨_, impl_actOk _, ?_⟩; conv => whnf) | (refine ⟨_, impl_valOk _, ?_⟩; conv => whnf) | (refine ⟨_, impl_argOk _, ?_⟩; conv => whnf)
    all_goals first | exact ⟨rfl, rfl⟩ | skip
    all_goals exact absurd (by simp_all) hall
end Cc
end
section
namespace Cc
open Go Go.AM
set_option maxRecDepth 100000
set_option maxHeartbeats 4000000
theorem spec_catOk (acts : List (List Line)) : Sem P 97 [(.pure, .one (sAs acts))] [] (B (catOk acts)) := by
  refine fn_okR (E := E0) E0_tab E0_ord (fn := Go.Proofs.Tryz.f97) (by kernel_rfl) (by kernel_rfl) (fun hb => ?_)
  have la : (acts.map eA).length = acts.length := List.length_map ..
  have hb1 : (acts.map eA).length ≤ 1125899906842624 := hb.1.1
  conv => whnf
  repeat' first | ((first | refine Sq.cons ?_ | refine Dr.cons ?_ | refine Sq.nil ?_ | (refine Dr.nil ?_; refine drawIf (by kernel_rfl) ?_) | refine Vc.region rfl ?_ | refine Vc.draw rfl (by kernel_rfl) ?_ | refine Vc.cond ?_ | refine Vc.block ?_ | refine Vc.ret ?_ | refine Vc.skip ?_ | refine Vc.exit ?_ | refine mkSl (by omega) (by omega) ?_); conv => whnf) | refine Vc.seq ?_ | (refine ifB_i (fun _ => ?_) (fun _ => ?_) <;> conv => whnf) | (refine ⟨_, spec_in _ _ _, ?_⟩; conv => whnf)
  · rename_i h
    exact rB (by simp_all [catOk])
  · rename_i h
    refine Vc.loop1 (fun (i : Nat) => i ≤ acts.length ∧ ∀ j, j < i → actOk (acts.getD j default) = true) (fun i => updL [0] [(3, I i)] []) (fun i => acts.length - i) 0 ⟨by omega, fun j hj => absurd hj (Nat.not_lt_zero j)⟩ ?_ (fun i hi => ?_)
    · repeat' (first | exact True.intro | ((conv => whnf); first | exact True.intro | refine ⟨by rfl, ?_⟩ | refine ⟨?_, ?_⟩))
    · obtain ⟨hi, ho⟩ := hi
      have hlm : (acts.map eA).length = acts.length := List.length_map ..
      conv => whnf
      (repeat' first | ((first | refine Sq.cons ?_ | refine Dr.cons ?_ | refine Sq.nil ?_ | (refine Dr.nil ?_; refine drawIf (by kernel_rfl) ?_) | refine Vc.region rfl ?_ | refine Vc.draw rfl (by kernel_rfl) ?_ | refine Vc.cond ?_ | refine Vc.block ?_ | refine Vc.ret ?_ | refine Vc.skip ?_ | refine Vc.exit ?_ | refine mkSl (by omega) (by omega) ?_); conv => whnf) | refine Vc.seq ?_)
      refine ifB_d (fun g => ?_) (fun g => ?_)
      all_goals conv => whnf
      · repeat' first | ((first | refine Sq.cons ?_ | refine Dr.cons ?_ | refine Sq.nil ?_ | (refine Dr.nil ?_; refine drawIf (by kernel_rfl) ?_) | refine Vc.region rfl ?_ | refine Vc.draw rfl (by kernel_rfl) ?_ | refine Vc.cond ?_ | refine Vc.block ?_ | refine Vc.ret ?_ | refine Vc.skip ?_ | refine Vc.exit ?_ | refine mkSl (by omega) (by omega) ?_); conv => whnf) | refine Vc.seq ?_ | (refine ifB_i (fun _ => ?_) (fun _ => ?_) <;> conv => whnf) | (refine ixN (enc := eA) default (by omega) ?_; conv => whnf) | (refine ⟨_, spec_actOk _, ?_⟩; conv => whnf) | (refine w64 (by first | omega | (dsimp only; omega)) (by first | omega | (dsimp only; omega)) ?_; conv => whnf)
        all_goals first
          | (refine ⟨i + 1, ⟨by omega, fun j hj => ?_⟩, by simp only; omega, ?_⟩
             · by_cases h' : j < i
               · exact ho j h'
               · obtain rfl : j = i := by omega
                 clear ho
                 simp_all
             · repeat' (first | exact True.intro | ((conv => whnf); first | exact True.intro | refine ⟨by rfl, ?_⟩ | refine ⟨?_, ?_⟩)))
          | (have hp : actOk (acts.getD i default) = false := by (clear ho; simp_all )
             have hn : acts.all actOk = false := all_not default (j := i) (by omega) hp
             exact rB (by simp_all [catOk]))
      · have hall : acts.all actOk = true := all_get default fun j hj => ho j (by omega)
        repeat' first | ((first | refine Sq.cons ?_ | refine Dr.cons ?_ | refine Sq.nil ?_ | (refine Dr.nil ?_; refine drawIf (by kernel_rfl) ?_) | refine Vc.region rfl ?_ | refine Vc.draw rfl (by kernel_rfl) ?_ | refine Vc.cond ?_ | refine Vc.block ?_ | refine Vc.ret ?_ | refine Vc.skip ?_ | refine Vc.exit ?_ | refine mkSl (by omega) (by omega) ?_); conv => whnf) | refine Vc.seq ?_ | (refine ifB_i (fun _ => ?_) (fun _ => ?_) <;> conv => whnf) | (refine ⟨_, spec_actOk _, ?_⟩; conv => whnf) | (refine w64 (by first | omega | (dsimp only; omega)) (by first | omega | (dsimp only; omega)) ?_; conv => whnf)
        exact rB (by simp_all [catOk])
theorem cat_1 (a : List Line) : Sem P 279 [(.pure, .one (sLs a))] [] (B (!actOk a)) := by
  refine fn_okR (E := E0) E0_tab E0_ord (fn := Go.Proofs.Tryz.f279) (by kernel_rfl) (by kernel_rfl) (fun hb => ?_)
  conv => whnf
  repeat' first | ((first | refine Sq.cons ?_ | refine Dr.cons ?_ | refine Sq.nil ?_ | (refine Dr.nil ?_; refine drawIf (by kernel_rfl) ?_) | refine Vc.region rfl ?_ | refine Vc.draw rfl (by kernel_rfl) ?_ | refine Vc.cond ?_ | refine Vc.block ?_ | refine Vc.ret ?_ | refine Vc.skip ?_ | refine Vc.exit ?_ | refine mkSl (by omega) (by omega) ?_); conv => whnf) | refine Vc.seq ?_ | (refine ifB_i (fun _ => ?_) (fun _ => ?_) <;> conv => whnf) | (refine ⟨_, impl_actOk _, ?_⟩; conv => whnf)
  exact ⟨rfl, rfl⟩
theorem cats_any_ix  (l : List (List Line)) : Sem P 337 [(.pure, .one (sAs l)), (.pure, .one (.fn 279 []))] [] (I (idxOf (fun (x : (List Line)) => !actOk x) l)) := by
  refine fn_okR (E := E0) E0_tab E0_ord (fn := Go.Proofs.Tryz.f337) (by kernel_rfl) (by kernel_rfl) (fun hb => ?_)
  have la : (l.map eA).length = l.length := List.length_map ..
  have hb1 : (l.map eA).length ≤ 1125899906842624 := hb.1.1
  conv => whnf
  (repeat' first | ((first | refine Sq.cons ?_ | refine Dr.cons ?_ | refine Sq.nil ?_ | (refine Dr.nil ?_; refine drawIf (by kernel_rfl) ?_) | refine Vc.region rfl ?_ | refine Vc.draw rfl (by kernel_rfl) ?_ | refine Vc.cond ?_ | refine Vc.block ?_ | refine Vc.ret ?_ | refine Vc.skip ?_ | refine Vc.exit ?_ | refine mkSl (by omega) (by omega) ?_); conv => whnf) | refine Vc.seq ?_)
  refine Vc.loop { i : Nat // ∀ j, j < i → j < l.length → (fun (x : (List Line)) => !actOk x) (l.getD j default) = false } (fun i => updL [0, 1, 7] [(8, I i.1)] []) (fun i => l.length - i.1) ⟨0, by simp⟩ ?_ (fun i => ?_)
  · repeat' (first | exact True.intro | ((conv => whnf); first | exact True.intro | refine ⟨by rfl, ?_⟩ | refine ⟨?_, ?_⟩))
  · have hi := i.2
    conv => whnf
    (repeat' first | ((first | refine Sq.cons ?_ | refine Dr.cons ?_ | refine Sq.nil ?_ | (refine Dr.nil ?_; refine drawIf (by kernel_rfl) ?_) | refine Vc.region rfl ?_ | refine Vc.draw rfl (by kernel_rfl) ?_ | refine Vc.cond ?_ | refine Vc.block ?_ | refine Vc.ret ?_ | refine Vc.skip ?_ | refine Vc.exit ?_ | refine mkSl (by omega) (by omega) ?_); conv => whnf) | refine Vc.seq ?_)
    refine ifB_d (fun g => ?_) (fun g => ?_)
    all_goals conv => whnf
    · repeat' first | ((first | refine Sq.cons ?_ | refine Dr.cons ?_ | refine Sq.nil ?_ | (refine Dr.nil ?_; refine drawIf (by kernel_rfl) ?_) | refine Vc.region rfl ?_ | refine Vc.draw rfl (by kernel_rfl) ?_ | refine Vc.cond ?_ | refine Vc.block ?_ | refine Vc.ret ?_ | refine Vc.skip ?_ | refine Vc.exit ?_ | refine mkSl (by omega) (by omega) ?_); conv => whnf) | refine Vc.seq ?_ | (refine ifB_i (fun _ => ?_) (fun _ => ?_) <;> conv => whnf) | (refine ixN (enc := eA) default (by omega) ?_; conv => whnf) | (refine ⟨_, cat_1 _, ?_⟩; conv => whnf) | (refine w64 (by omega) (by omega) ?_; conv => whnf)
      · rename_i h
        exact rI' (idx_hit (p := fun (x : (List Line)) => !actOk x) default (by omega) h fun j hj => hi j hj (by omega)).symm
      · rename_i h
        refine ⟨⟨i.1 + 1, fun j hj hl => ?_⟩, ?_, ?_⟩
        · by_cases hji : j < i.1
          · exact hi j hji hl
          · obtain rfl : j = i.1 := by omega
            exact h
        · simp only; omega
        · repeat' (first | exact True.intro | ((conv => whnf); first | exact True.intro | refine ⟨by rfl, ?_⟩ | refine ⟨?_, ?_⟩))
    · (repeat' first | ((first | refine Sq.cons ?_ | refine Dr.cons ?_ | refine Sq.nil ?_ | (refine Dr.nil ?_; refine drawIf (by kernel_rfl) ?_) | refine Vc.region rfl ?_ | refine Vc.draw rfl (by kernel_rfl) ?_ | refine Vc.cond ?_ | refine Vc.block ?_ | refine Vc.ret ?_ | refine Vc.skip ?_ | refine Vc.exit ?_ | refine mkSl (by omega) (by omega) ?_); conv => whnf) | refine Vc.seq ?_)
      exact rI' (idx_none (p := fun (x : (List Line)) => !actOk x) default fun j hj => hi j (by omega) hj).symm
theorem cats_any  (l : List (List Line)) : Sem P 278 [(.pure, .one (sAs l)), (.pure, .one (.fn 279 []))] [] (B (l.any fun (x : (List Line)) => !actOk x)) := by
  refine fn_okR (E := E0) E0_tab E0_ord (fn := Go.Proofs.Tryz.f278) (by kernel_rfl) (by kernel_rfl) (fun hb => ?_)
  conv => whnf
  repeat' first | ((first | refine Sq.cons ?_ | refine Dr.cons ?_ | refine Sq.nil ?_ | (refine Dr.nil ?_; refine drawIf (by kernel_rfl) ?_) | refine Vc.region rfl ?_ | refine Vc.draw rfl (by kernel_rfl) ?_ | refine Vc.cond ?_ | refine Vc.block ?_ | refine Vc.ret ?_ | refine Vc.skip ?_ | refine Vc.exit ?_ | refine mkSl (by omega) (by omega) ?_); conv => whnf) | refine Vc.seq ?_ | (refine ifB_i (fun _ => ?_) (fun _ => ?_) <;> conv => whnf) | (refine ⟨_, cats_any_ix  l, ?_⟩; conv => whnf)
  exact rB (idx_any _ _)
theorem impl_catOk (acts : List (List Line)) : Sem P 173 [(.pure, .one (sAs acts))] [] (B (catOk acts)) := by
  refine fn_okR (E := E0) E0_tab E0_ord (fn := Go.Proofs.Tryz.f173) (by kernel_rfl) (by kernel_rfl) (fun hb => ?_)
  have la : (acts.map eA).length = acts.length := List.length_map ..
  conv => whnf
  repeat' first | ((first | refine Sq.cons ?_ | refine Dr.cons ?_ | refine Sq.nil ?_ | (refine Dr.nil ?_; refine drawIf (by kernel_rfl) ?_) | refine Vc.region rfl ?_ | refine Vc.draw rfl (by kernel_rfl) ?_ | refine Vc.cond ?_ | refine Vc.block ?_ | refine Vc.ret ?_ | refine Vc.skip ?_ | refine Vc.exit ?_ | refine mkSl (by omega) (by omega) ?_); conv => whnf) | refine Vc.seq ?_ | (refine ifB_i (fun _ => ?_) (fun _ => ?_) <;> conv => whnf) | (refine ⟨_, impl_in _ _ _, ?_⟩; conv => whnf) | (refine ⟨_, cats_any acts, ?_⟩; conv => whnf)
  all_goals exact rB (by simp_all [catOk, any_all])
theorem trt_1 (n : Int) : Sem P 280 [(.pure, I n)] [] (B (!inB n 0 50)) := by
  refine fn_okR (E := E0) E0_tab E0_ord (fn := Go.Proofs.Tryz.f280) (by kernel_rfl) (by kernel_rfl) (fun hb => ?_)
  conv => whnf
  repeat' first | ((first | refine Sq.cons ?_ | refine Dr.cons ?_ | refine Sq.nil ?_ | (refine Dr.nil ?_; refine drawIf (by kernel_rfl) ?_) | refine Vc.region rfl ?_ | refine Vc.draw rfl (by kernel_rfl) ?_ | refine Vc.cond ?_ | refine Vc.block ?_ | refine Vc.ret ?_ | refine Vc.skip ?_ | refine Vc.exit ?_ | refine mkSl (by omega) (by omega) ?_); conv => whnf) | refine Vc.seq ?_ | (refine ifB_i (fun _ => ?_) (fun _ => ?_) <;> conv => whnf) | (refine ⟨_, impl_in _ _ _, ?_⟩; conv => whnf)
  exact ⟨rfl, rfl⟩
theorem gives_any_ix  (l : List Int) : Sem P 286 [(.pure, .one (sI l)), (.pure, .one (.fn 280 []))] [] (I (idxOf (fun (x : Int) => !inB x 0 50) l)) := by
  refine fn_okR (E := E0) E0_tab E0_ord (fn := Go.Proofs.Tryz.f286) (by kernel_rfl) (by kernel_rfl) (fun hb => ?_)
  have la : (ints l).length = l.length := List.length_map ..
  have hb1 : (ints l).length ≤ 1125899906842624 := hb.1.1
  conv => whnf
  (repeat' first | ((first | refine Sq.cons ?_ | refine Dr.cons ?_ | refine Sq.nil ?_ | (refine Dr.nil ?_; refine drawIf (by kernel_rfl) ?_) | refine Vc.region rfl ?_ | refine Vc.draw rfl (by kernel_rfl) ?_ | refine Vc.cond ?_ | refine Vc.block ?_ | refine Vc.ret ?_ | refine Vc.skip ?_ | refine Vc.exit ?_ | refine mkSl (by omega) (by omega) ?_); conv => whnf) | refine Vc.seq ?_)
  refine Vc.loop { i : Nat // ∀ j, j < i → j < l.length → (fun (x : Int) => !inB x 0 50) (l.getD j default) = false } (fun i => updL [0, 1, 7] [(8, I i.1)] []) (fun i => l.length - i.1) ⟨0, by simp⟩ ?_ (fun i => ?_)
  · repeat' (first | exact True.intro | ((conv => whnf); first | exact True.intro | refine ⟨by rfl, ?_⟩ | refine ⟨?_, ?_⟩))
  · have hi := i.2
    conv => whnf
    (repeat' first | ((first | refine Sq.cons ?_ | refine Dr.cons ?_ | refine Sq.nil ?_ | (refine Dr.nil ?_; refine drawIf (by kernel_rfl) ?_) | refine Vc.region rfl ?_ | refine Vc.draw rfl (by kernel_rfl) ?_ | refine Vc.cond ?_ | refine Vc.block ?_ | refine Vc.ret ?_ | refine Vc.skip ?_ | refine Vc.exit ?_ | refine mkSl (by omega) (by omega) ?_); conv => whnf) | refine Vc.seq ?_)
    refine ifB_d (fun g => ?_) (fun g => ?_)
    all_goals conv => whnf
    · repeat' first | ((first | refine Sq.cons ?_ | refine Dr.cons ?_ | refine Sq.nil ?_ | (refine Dr.nil ?_; refine drawIf (by kernel_rfl) ?_) | refine Vc.region rfl ?_ | refine Vc.draw rfl (by kernel_rfl) ?_ | refine Vc.cond ?_ | refine Vc.block ?_ | refine Vc.ret ?_ | refine Vc.skip ?_ | refine Vc.exit ?_ | refine mkSl (by omega) (by omega) ?_); conv => whnf) | refine Vc.seq ?_ | (refine ifB_i (fun _ => ?_) (fun _ => ?_) <;> conv => whnf) | (refine ixN (enc := rI) default (by omega) ?_; conv => whnf) | (refine ⟨_, trt_1 _, ?_⟩; conv => whnf) | (refine w64 (by omega) (by omega) ?_; conv => whnf)
      · rename_i h
        exact rI' (idx_hit (p := fun (x : Int) => !inB x 0 50) default (by omega) h fun j hj => hi j hj (by omega)).symm
      · rename_i h
        refine ⟨⟨i.1 + 1, fun j hj hl => ?_⟩, ?_, ?_⟩
        · by_cases hji : j < i.1
          · exact hi j hji hl
          · obtain rfl : j = i.1 := by omega
            exact h
        · simp only; omega
        · repeat' (first | exact True.intro | ((conv => whnf); first | exact True.intro | refine ⟨by rfl, ?_⟩ | refine ⟨?_, ?_⟩))
    · (repeat' first | ((first | refine Sq.cons ?_ | refine Dr.cons ?_ | refine Sq.nil ?_ | (refine Dr.nil ?_; refine drawIf (by kernel_rfl) ?_) | refine Vc.region rfl ?_ | refine Vc.draw rfl (by kernel_rfl) ?_ | refine Vc.cond ?_ | refine Vc.block ?_ | refine Vc.ret ?_ | refine Vc.skip ?_ | refine Vc.exit ?_ | refine mkSl (by omega) (by omega) ?_); conv => whnf) | refine Vc.seq ?_)
      exact rI' (idx_none (p := fun (x : Int) => !inB x 0 50) default fun j hj => hi j (by omega) hj).symm
theorem gives_any  (l : List Int) : Sem P 188 [(.pure, .one (sI l)), (.pure, .one (.fn 280 []))] [] (B (l.any fun (x : Int) => !inB x 0 50)) := by
  refine fn_okR (E := E0) E0_tab E0_ord (fn := Go.Proofs.Tryz.f188) (by kernel_rfl) (by kernel_rfl) (fun hb => ?_)
  conv => whnf
  repeat' first | ((first | refine Sq.cons ?_ | refine Dr.cons ?_ | refine Sq.nil ?_ | (refine Dr.nil ?_; refine drawIf (by kernel_rfl) ?_) | refine Vc.region rfl ?_ | refine Vc.draw rfl (by kernel_rfl) ?_ | refine Vc.cond ?_ | refine Vc.block ?_ | refine Vc.ret ?_ | refine Vc.skip ?_ | refine Vc.exit ?_ | refine mkSl (by omega) (by omega) ?_); conv => whnf) | refine Vc.seq ?_ | (refine ifB_i (fun _ => ?_) (fun _ => ?_) <;> conv => whnf) | (refine ⟨_, gives_any_ix  l, ?_⟩; conv => whnf)
  exact rB (idx_any _ _)
theorem impl_trtOk (t : Treaty) : Sem P 174 [(.pure, .agg (aT t))] [] (B (trtOk t)) := by
  refine fn_okR (E := E0) E0_tab E0_ord (fn := Go.Proofs.Tryz.f174) (by kernel_rfl) (by kernel_rfl) (fun hb => ?_)
  have la := ints_len t.Gives
  conv => whnf
  repeat' first | ((first | refine Sq.cons ?_ | refine Dr.cons ?_ | refine Sq.nil ?_ | (refine Dr.nil ?_; refine drawIf (by kernel_rfl) ?_) | refine Vc.region rfl ?_ | refine Vc.draw rfl (by kernel_rfl) ?_ | refine Vc.cond ?_ | refine Vc.block ?_ | refine Vc.ret ?_ | refine Vc.skip ?_ | refine Vc.exit ?_ | refine mkSl (by omega) (by omega) ?_); conv => whnf) | refine Vc.seq ?_ | (refine ifB_i (fun _ => ?_) (fun _ => ?_) <;> conv => whnf) | (refine ⟨_, impl_valOk _, ?_⟩; conv => whnf) | (refine ⟨_, impl_in _ _ _, ?_⟩; conv => whnf) | (refine ⟨_, gives_any t.Gives, ?_⟩; conv => whnf)
  all_goals exact rB (by simp_all [trtOk, givesOk, any_all])
theorem spec_trtOk (t : Treaty) : Sem P 99 [(.pure, .agg (aT t))] [] (B (trtOk t)) := by
  refine fn_okR (E := E0) E0_tab E0_ord (fn := Go.Proofs.Tryz.f99) (by kernel_rfl) (by kernel_rfl) (fun hb => ?_)
  have la := ints_len t.Gives
  have hb1 : (ints t.Gives).length ≤ 1125899906842624 := (hb.1 (sI t.Gives) (by simp)).1
  conv => whnf
  repeat' first | ((first | refine Sq.cons ?_ | refine Dr.cons ?_ | refine Sq.nil ?_ | (refine Dr.nil ?_; refine drawIf (by kernel_rfl) ?_) | refine Vc.region rfl ?_ | refine Vc.draw rfl (by kernel_rfl) ?_ | refine Vc.cond ?_ | refine Vc.block ?_ | refine Vc.ret ?_ | refine Vc.skip ?_ | refine Vc.exit ?_ | refine mkSl (by omega) (by omega) ?_); conv => whnf) | refine Vc.seq ?_ | (refine ifB_i (fun _ => ?_) (fun _ => ?_) <;> conv => whnf) | (refine ⟨_, spec_valOk _, ?_⟩; conv => whnf) | (refine ⟨_, spec_in _ _ _, ?_⟩; conv => whnf)
  · rename_i h
    exact rB (by simp_all [trtOk])
  · rename_i h
    exact rB (by simp_all [trtOk, givesOk])
  · rename_i h1 h2
    refine Vc.loop1 (fun (i : Nat) => i ≤ t.Gives.length ∧ ∀ j, j < i → (fun n => inB n 0 50) (t.Gives.getD j default) = true) (fun i => updL [1] [(3, I i)] []) (fun i => t.Gives.length - i) 0 ⟨by omega, fun j hj => absurd hj (Nat.not_lt_zero j)⟩ ?_ (fun i hi => ?_)
    · repeat' (first | exact True.intro | ((conv => whnf); first | exact True.intro | refine ⟨by rfl, ?_⟩ | refine ⟨?_, ?_⟩))
    · obtain ⟨hi, ho⟩ := hi
      have hlm : (t.Gives.map rI).length = t.Gives.length := List.length_map ..
      conv => whnf
      (repeat' first | ((first | refine Sq.cons ?_ | refine Dr.cons ?_ | refine Sq.nil ?_ | (refine Dr.nil ?_; refine drawIf (by kernel_rfl) ?_) | refine Vc.region rfl ?_ | refine Vc.draw rfl (by kernel_rfl) ?_ | refine Vc.cond ?_ | refine Vc.block ?_ | refine Vc.ret ?_ | refine Vc.skip ?_ | refine Vc.exit ?_ | refine mkSl (by omega) (by omega) ?_); conv => whnf) | refine Vc.seq ?_)
      refine ifB_d (fun g => ?_) (fun g => ?_)
      all_goals conv => whnf
      · repeat' first | ((first | refine Sq.cons ?_ | refine Dr.cons ?_ | refine Sq.nil ?_ | (refine Dr.nil ?_; refine drawIf (by kernel_rfl) ?_) | refine Vc.region rfl ?_ | refine Vc.draw rfl (by kernel_rfl) ?_ | refine Vc.cond ?_ | refine Vc.block ?_ | refine Vc.ret ?_ | refine Vc.skip ?_ | refine Vc.exit ?_ | refine mkSl (by omega) (by omega) ?_); conv => whnf) | refine Vc.seq ?_ | (refine ifB_i (fun _ => ?_) (fun _ => ?_) <;> conv => whnf) | (refine ixN (enc := rI) default (by omega) ?_; conv => whnf) | (refine ⟨_, spec_in _ _ _, ?_⟩; conv => whnf) | (refine w64 (by first | omega | (dsimp only; omega)) (by first | omega | (dsimp only; omega)) ?_; conv => whnf)
        all_goals first
          | (refine ⟨i + 1, ⟨by omega, fun j hj => ?_⟩, by simp only; omega, ?_⟩
             · by_cases h' : j < i
               · exact ho j h'
               · obtain rfl : j = i := by omega
                 clear ho
                 simp_all
             · repeat' (first | exact True.intro | ((conv => whnf); first | exact True.intro | refine ⟨by rfl, ?_⟩ | refine ⟨?_, ?_⟩)))
          | (have hp : (fun n => inB n 0 50) (t.Gives.getD i default) = false := by (clear ho; simp_all )
             have hn : t.Gives.all (fun n => inB n 0 50) = false := all_not default (j := i) (by omega) hp
             exact rB (by simp_all [trtOk, givesOk]))
      · have hall : t.Gives.all (fun n => inB n 0 50) = true := all_get default fun j hj => ho j (by omega)
        repeat' first | ((first | refine Sq.cons ?_ | refine Dr.cons ?_ | refine Sq.nil ?_ | (refine Dr.nil ?_; refine drawIf (by kernel_rfl) ?_) | refine Vc.region rfl ?_ | refine Vc.draw rfl (by kernel_rfl) ?_ | refine Vc.cond ?_ | refine Vc.block ?_ | refine Vc.ret ?_ | refine Vc.skip ?_ | refine Vc.exit ?_ | refine mkSl (by omega) (by omega) ?_); conv => whnf) | refine Vc.seq ?_ | (refine ifB_i (fun _ => ?_) (fun _ => ?_) <;> conv => whnf) | (refine ⟨_, spec_in _ _ _, ?_⟩; conv => whnf) | (refine w64 (by first | omega | (dsimp only; omega)) (by first | omega | (dsimp only; omega)) ?_; conv => whnf)
        exact rB (by simp_all [trtOk, givesOk])
theorem impl_treaty (p : Plan) (base : List Int) : Sem P 175 [(.pure, .agg (aPl p)), (.pure, AI base)] [] (.agg [fI base, fI p.Gives]) := by
  refine fn_okR (E := E0) E0_tab E0_ord (fn := Go.Proofs.Tryz.f175) (by kernel_rfl) (by kernel_rfl) (fun hb => ?_)
  conv => whnf
  repeat' first | ((first | refine Sq.cons ?_ | refine Dr.cons ?_ | refine Sq.nil ?_ | (refine Dr.nil ?_; refine drawIf (by kernel_rfl) ?_) | refine Vc.region rfl ?_ | refine Vc.draw rfl (by kernel_rfl) ?_ | refine Vc.cond ?_ | refine Vc.block ?_ | refine Vc.ret ?_ | refine Vc.skip ?_ | refine Vc.exit ?_ | refine mkSl (by omega) (by omega) ?_); conv => whnf) | refine Vc.seq ?_ | (refine ifB_i (fun _ => ?_) (fun _ => ?_) <;> conv => whnf)
  exact ⟨rfl, rfl⟩
theorem impl_planOk (p : Plan) : Sem P 75 [(.pure, .agg (aPl p))] [] (B (planOk p)) := by
  refine fn_okR (E := E0) E0_tab E0_ord (fn := Go.Proofs.Tryz.f75) (by kernel_rfl) (by kernel_rfl) (fun hb => ?_)
  conv => whnf
  repeat' first | ((first | refine Sq.cons ?_ | refine Dr.cons ?_ | refine Sq.nil ?_ | (refine Dr.nil ?_; refine drawIf (by kernel_rfl) ?_) | refine Vc.region rfl ?_ | refine Vc.draw rfl (by kernel_rfl) ?_ | refine Vc.cond ?_ | refine Vc.block ?_ | refine Vc.ret ?_ | refine Vc.skip ?_ | refine Vc.exit ?_ | refine mkSl (by omega) (by omega) ?_); conv => whnf) | refine Vc.seq ?_ | (refine ifB_i (fun _ => ?_) (fun _ => ?_) <;> conv => whnf) | (refine ⟨_, impl_in _ _ _, ?_⟩; conv => whnf) | (refine ⟨_, impl_catOk _, ?_⟩; conv => whnf) | (refine ⟨_, impl_within _ 3 _ (by omega), ?_⟩; conv => whnf) | (refine ⟨_, impl_treaty p p.Start, ?_⟩; conv => whnf) | (refine ⟨_, impl_trtOk ⟨p.Start, p.Gives⟩, ?_⟩; conv => whnf)
  all_goals exact rB (by simp_all [planOk, Plan.treaty])
theorem spec_planOk (p : Plan) : Sem P 24 [(.pure, .agg (aPl p))] [] (B (planOk p)) := by
  refine fn_okR (E := E0) E0_tab E0_ord (fn := Go.Proofs.Tryz.f24) (by kernel_rfl) (by kernel_rfl) (fun hb => ?_)
  conv => whnf
  repeat' first | ((first | refine Sq.cons ?_ | refine Dr.cons ?_ | refine Sq.nil ?_ | (refine Dr.nil ?_; refine drawIf (by kernel_rfl) ?_) | refine Vc.region rfl ?_ | refine Vc.draw rfl (by kernel_rfl) ?_ | refine Vc.cond ?_ | refine Vc.block ?_ | refine Vc.ret ?_ | refine Vc.skip ?_ | refine Vc.exit ?_ | refine mkSl (by omega) (by omega) ?_); conv => whnf) | refine Vc.seq ?_ | (refine ifB_i (fun _ => ?_) (fun _ => ?_) <;> conv => whnf) | (refine ⟨_, spec_in _ _ _, ?_⟩; conv => whnf) | (refine ⟨_, spec_catOk _, ?_⟩; conv => whnf) | (refine ⟨_, spec_all _ 3 _ (by omega), ?_⟩; conv => whnf) | (refine ⟨_, spec_trtOk ⟨p.Start, p.Gives⟩, ?_⟩; conv => whnf)
  all_goals exact rB (by simp_all [planOk, Plan.treaty])
theorem impl_isClient (p : Plan) (n : Int) (hc : inB p.Clients 0 4 = true) : Sem P 165 [(.pure, .agg (aPl p)), (.pure, I n)] [] (B (isClient p n)) := by
  have hc := inB_iff.1 hc
  refine fn_okR (E := E0) E0_tab E0_ord (fn := Go.Proofs.Tryz.f165) (by kernel_rfl) (by kernel_rfl) (fun hb => ?_)
  conv => whnf
  repeat' first | ((first | refine Sq.cons ?_ | refine Dr.cons ?_ | refine Sq.nil ?_ | (refine Dr.nil ?_; refine drawIf (by kernel_rfl) ?_) | refine Vc.region rfl ?_ | refine Vc.draw rfl (by kernel_rfl) ?_ | refine Vc.cond ?_ | refine Vc.block ?_ | refine Vc.ret ?_ | refine Vc.skip ?_ | refine Vc.exit ?_ | refine mkSl (by omega) (by omega) ?_); conv => whnf) | refine Vc.seq ?_ | (refine ifB_i (fun _ => ?_) (fun _ => ?_) <;> conv => whnf) | (refine ⟨_, impl_in _ _ _, ?_⟩; conv => whnf) | (refine w64 (by omega) (by omega) ?_; conv => whnf)
  exact ⟨rfl, rfl⟩
theorem impl_callOk (p : Plan) (c : Call) (hc : inB p.Clients 0 4 = true) : Sem P 178 [(.pure, .agg (aPl p)), (.pure, .agg (aC c))] [] (B (callB p c)) := by
  refine fn_okR (E := E0) E0_tab E0_ord (fn := Go.Proofs.Tryz.f178) (by kernel_rfl) (by kernel_rfl) (fun hb => ?_)
  have la : (p.Acts.map eA).length = p.Acts.length := List.length_map ..
  have hb1 : (p.Acts.map eA).length ≤ 1125899906842624 := (hb.1 (sAs p.Acts) (by simp)).1
  conv => whnf
  repeat' first | ((first | refine Sq.cons ?_ | refine Dr.cons ?_ | refine Sq.nil ?_ | (refine Dr.nil ?_; refine drawIf (by kernel_rfl) ?_) | refine Vc.region rfl ?_ | refine Vc.draw rfl (by kernel_rfl) ?_ | refine Vc.cond ?_ | refine Vc.block ?_ | refine Vc.ret ?_ | refine Vc.skip ?_ | refine Vc.exit ?_ | refine mkSl (by omega) (by omega) ?_); conv => whnf) | refine Vc.seq ?_ | (refine ifB_i (fun _ => ?_) (fun _ => ?_) <;> conv => whnf) | (refine ⟨_, impl_isClient p c.Client hc, ?_⟩; conv => whnf) | (refine ⟨_, impl_in _ _ _, ?_⟩; conv => whnf) | (refine ⟨_, impl_argOk _, ?_⟩; conv => whnf) | (refine w64 (by omega) (by omega) ?_; conv => whnf)
  all_goals exact rB (by simp_all [callB])
end Cc
end
section
namespace Go.Proofs
open Go.Shelf
def Tryz.lays240_ren : Go.Shelf.Ren := ⟨fun | 166 => 370 | 240 => 392 | 276 => 402 | n => n, fun | 0 => 0 | 3 => 3 | 4 => 4 | 5 => 5 | 9 => 9 | 20 => 20 | 37 => 22 | 70 => 389 | 72 => 391 | 75 => 393 | 80 => 396 | 164 => 415 | 77 => 394 | n => n, fun | n => n⟩
def Tryz.lays166_ren : Go.Shelf.Ren := ⟨fun | 166 => 370 | 240 => 392 | 276 => 402 | n => n, fun | 0 => 0 | 3 => 3 | 4 => 4 | 5 => 5 | 9 => 9 | 20 => 20 | 37 => 22 | 70 => 389 | 72 => 391 | 75 => 393 | 80 => 396 | 164 => 415 | 77 => 394 | n => n, fun | n => n⟩
theorem Tryz.lays166 : Go.Proofs.Lays.n166 Tryz.prog Tryz.lays166_ren := {
  mixed := by kernel_rfl
  f166 := Tryz.func370.trans (congrArg some (by kernel_rfl))
  f240 := Tryz.func392.trans (congrArg some (by kernel_rfl))
  f276 := Tryz.func402.trans (congrArg some (by kernel_rfl))
  t0 := Tryz.underlying0
  a0 := Tryz.isAgg0
  z0 := Tryz.sizeOf0
  v0 := Tryz.zeroValue0
  t3 := Tryz.underlying3
  a3 := Tryz.isAgg3
  z3 := Tryz.sizeOf3
  v3 := Tryz.zeroValue3
  t4 := Tryz.underlying4
  a4 := Tryz.isAgg4
  z4 := Tryz.sizeOf4
  v4 := Tryz.zeroValue4
  t9 := Tryz.underlying9
  a9 := Tryz.isAgg9
  z9 := Tryz.sizeOf9
  v9 := Tryz.zeroValue9
  t20 := Tryz.underlying20
  a20 := Tryz.isAgg20
  z20 := Tryz.sizeOf20
  v20 := Tryz.zeroValue20
  t37 := Tryz.underlying22
  a37 := Tryz.isAgg22
  z37 := Tryz.sizeOf22
  v37 := Tryz.zeroValue22
  t70 := Tryz.underlying389
  a70 := Tryz.isAgg389
  z70 := Tryz.sizeOf389
  v70 := Tryz.zeroValue389
  t72 := Tryz.underlying391
  a72 := Tryz.isAgg391
  z72 := Tryz.sizeOf391
  v72 := Tryz.zeroValue391
  t75 := Tryz.underlying393
  a75 := Tryz.isAgg393
  z75 := Tryz.sizeOf393
  v75 := Tryz.zeroValue393
  t164 := Tryz.underlying415
  a164 := Tryz.isAgg415
  z164 := Tryz.sizeOf415
  v164 := Tryz.zeroValue415 }
theorem Tryz.Builder_Extra_166 : Builder.Extra Tryz.prog Tryz.lays166_ren := {
  sizeBuilder := by kernel_rfl
  liesBuilder := by kernel_rfl
  t5 := Tryz.underlying5
  a5 := Tryz.isAgg5
  z5 := Tryz.sizeOf5
  v5 := Tryz.zeroValue5
  infoByte := by kernel_rfl
  cellsByte := by kernel_rfl
  sizeByte := by kernel_rfl
  neB5 := by decide }
open Go.RowKit in
theorem Tryz.Builder_WriteString (B b : Nat) (bs : List Value) (s : ByteArray) (w : World) (h : Lib.IsBuilder 391 5 B b bs w) (hlen : bs.length + s.size ≤ 140737488355328) (hBw : B ≤ w.heap.size) :
    Calls Tryz.prog 370 #[.pointer (some ⟨b, 0, none⟩), .string s] w fun e w' => e = .returned (.tuple #[.int .i64 s.size, .nilIface]) ∧ (Lib.BuilderAt 391 5 B b (.pointer (some ⟨b, 0, none⟩)) (bs ++ Lib.strCells s) w' ∧ Below B w w') := Any.Builder_WriteString Tryz.lays166 Tryz.Builder_Extra_166 B b bs s w h hlen hBw
end Go.Proofs
end
section
namespace Go.AM
open Go Go.RowKit Go.Sort
def joinT (l : List Int) : List UInt8 := l.flatMap fun n => 32 :: Lib.itoa n
theorem joinT_take {l : List Int} {k : Nat} (h : k < l.length) : joinT (l.take (k + 1)) = joinT (l.take k) ++ (32 :: Lib.itoa (l.getD k 0)) := by
  rw [joinT, joinT, List.take_add_one, List.flatMap_append, List.getD_eq_getElem?_getD, List.getElem?_eq_getElem h]
  simp
theorem nDigits_pow : ∀ (k : Nat) {u : Nat}, u < 10 ^ (k + 1) → Lib.nDigits u ≤ k + 1
  | 0, u, h => by rw [Lib.nDigits_small (by simpa using h)]; exact Nat.le_refl _
  | k + 1, u, h => by
    by_cases h' : u < 10
    · rw [Lib.nDigits_small h']; omega
    · rw [Lib.nDigits_big h']
      have := nDigits_pow k (u := u / 10) (by rw [Nat.pow_succ] at h; omega)
      omega
theorem itoa_len {n : Int} (h : -9223372036854775808 ≤ n ∧ n ≤ 9223372036854775807) : (Lib.itoa n).length ≤ 21 := by
  unfold Lib.itoa
  split
  · rw [List.length_cons, Lib.decDigits_length]
    have := nDigits_pow 19 (u := n.natAbs) (by omega)
    omega
  · rw [Lib.decDigits_length]
    have := nDigits_pow 19 (u := n.toNat) (by omega)
    omega
theorem joinT_len : ∀ {l : List Int}, (∀ x ∈ l, -9223372036854775808 ≤ x ∧ x ≤ 9223372036854775807) → (joinT l).length ≤ l.length * 22
  | [], _ => by simp [joinT]
  | a :: r, h => by
    have h1 := itoa_len (h a (by simp))
    have h2 := joinT_len (l := r) fun x hx => h x (by simp [hx])
    have e : joinT (a :: r) = (32 :: Lib.itoa a) ++ joinT r := rfl
    rw [e, List.length_append, List.length_cons, List.length_cons]
    omega
theorem tab_below {w wr : World} (h : Lib.TabIs (P : Program) w "internal/strconv.uint64pow10" .u64 Lib.pow10Tab) (hb : Below w.heap.size w wr) : Lib.TabIs (P : Program) wr "internal/strconv.uint64pow10" .u64 Lib.pow10Tab := by
  unfold Lib.TabIs World.var? at *
  cases hg : (P : Program).globalNamed "internal/strconv.uint64pow10" with
  | none => rw [hg] at h; cases h
  | some g =>
    rw [hg] at h
    simp only [Option.bind_some] at h ⊢
    have hlt : g < w.heap.size := by
      by_cases hlt : g < w.heap.size
      · exact hlt
      · rw [Array.getElem?_eq_none (by omega)] at h; cases h
    rw [hb.block g hlt]
    exact h
theorem cell_lt {w : World} {p : Addr} {v : Value} (h : w.cell? p = some v) : p.block < w.heap.size := by
  by_cases hlt : p.block < w.heap.size
  · exact hlt
  · unfold World.cell? at h
    rw [Array.getElem?_eq_none (by omega)] at h
    cases h
theorem builder_grow {B b : Nat} {bs : List Value} {w : World} {T e : TypeId} (h : Lib.IsBuilder T e B b bs w) (k : Nat) (os : Array Obj) : Lib.IsBuilder T e B b bs (Go.Sort.grow (w.drewN k) os) := by
  have key : ∀ {p : Value}, Lib.BuilderAt T e B b p bs w → Lib.BuilderAt T e B b p bs (Go.Sort.grow (w.drewN k) os) := by
    intro p h
    have hlt := h.lt
    obtain ⟨h1, v, h2, h3, h4⟩ := h
    exact ⟨h1, v, by rw [Lib.heap_grow_old w k os b hlt]; exact h2, Lib.ownsRow_grow h3 k os, h4⟩
  rcases h with h | h
  · exact .inl (key h)
  · exact .inr (key h)
set_option maxHeartbeats 4000000 in
set_option maxRecDepth 1000000 in
theorem joined_walk (l : List Int) (a : Option Addr) (cap : Nat) (w : World) (hl : l.length ≤ 1000) (hbd : ∀ x ∈ l, -9223372036854775808 ≤ x ∧ x ≤ 9223372036854775807) (h0 : l ≠ [] → ∃ b o, a = some ⟨b, o, none⟩) (hc : ∀ b o, a = some ⟨b, o, none⟩ → ∀ j, j < l.length → w.cell? ⟨b, o + j, none⟩ = some (.int .i64 (l.getD j 0)))
    (htab : Lib.TabIs (P : Program) w "internal/strconv.uint64pow10" .u64 Lib.pow10Tab) :
    Calls Go.Proofs.Tryz.prog 339 #[.slice a l.length cap] w fun e w' => e = .returned (.string ⟨(joinT l).toArray⟩) ∧ Below w.heap.size w w' := by
  go_enter Go.Proofs.Tryz.func339, Go.Proofs.Tryz.ntmps339
  go_wp2
  go_loopw [8] (fun i wr => ∃ k : Nat, i = .int .i64 k ∧ k ≤ l.length ∧ Lib.IsBuilder 391 5 w.heap.size w.heap.size (Lib.byteCells (joinT (l.take k))) wr ∧ Below w.heap.size w wr) (fun i _ => l.length - (intOf i).toNat)
  case atStart =>
    exact ⟨0, rfl, Nat.zero_le _, Lib.fresh_isBuilder 391 5 w, (Below.refl _ w).alloc (Nat.le_refl _) _⟩
  case round =>
    obtain ⟨k, rfl, hk, hI, hbw⟩ := hrel
    have hsz : w.heap.size ≤ wr.heap.size := hbw.size
    by_cases hkl : k < l.length
    · obtain ⟨b, o, rfl⟩ := h0 (by intro e; subst e; simp at hkl)
      have hco := hc b o rfl k hkl
      have hcell : wr.cell? ⟨b, o + k, none⟩ = some (.int .i64 (l.getD k 0)) := by
        rw [hbw.cell (cell_lt hco)]; exact hco
      have hgd : l.getD k 0 = l[k] := by rw [List.getD_eq_getElem?_getD, List.getElem?_eq_getElem hkl]; rfl
      rw [hgd] at hcell
      have hn := hbd l[k] (List.getElem_mem hkl)
      have ht := tab_below htab hbw
      have hlen := joinT_len (l := l.take k) fun x hx => hbd x (List.mem_of_mem_take hx)
      rw [List.length_take, Nat.min_eq_left hk] at hlen
      have hil := itoa_len hn
      have hcat : (⟨#[32]⟩ : ByteArray) ++ ⟨(Lib.itoa l[k]).toArray⟩ = ⟨(32 :: Lib.itoa l[k]).toArray⟩ := by
        apply ByteArray.ext
        simp
      go_wp2_with (go_at_call 371; refine (Go.Proofs.Tryz.strconv_Itoa l[k] hn.1 hn.2 wr ht).mono ?_)
      rintro e W1 ⟨rfl, k1, os, rfl⟩
      have hI1 : Lib.IsBuilder 391 5 w.heap.size w.heap.size (Lib.byteCells (joinT (l.take k))) (grow (wr.drewN k1) os) := builder_grow hI k1 os
      have hb1 : Below w.heap.size wr (grow (wr.drewN k1) os) := Lib.below_grow _ _ hsz _ _
      have hs1 : w.heap.size ≤ (grow (wr.drewN k1) os).heap.size := Nat.le_trans hsz hb1.size
      generalize grow (wr.drewN k1) os = W at hI1 hb1 hs1 ⊢
      go_wp2_with (go_at_call 370; refine (Go.Proofs.Tryz.Builder_WriteString w.heap.size w.heap.size _ _ _ hI1 ?_ hs1).mono ?_)
      · rw [Lib.byteCells_length]
        show _ + ((32 :: Lib.itoa l[k]).toArray).size ≤ _
        rw [List.size_toArray, List.length_cons]
        omega
      · rintro e W1 ⟨rfl, h1, b1⟩
        rw [Lib.strCells_toArray, ← Lib.byteCells_append] at h1
        have e1 : joinT (l.take k) ++ (32 :: Lib.itoa l[k]) = joinT (l.take (k + 1)) := by rw [joinT_take hkl, hgd]
        rw [e1] at h1
        go_wp2
        go_roundw
        case rel => exact ⟨k + 1, by go_num, by omega, .inr h1, (hbw.trans hb1).trans b1⟩
        case measure => simp [intOf]; omega
    · have e : k = l.length := by omega
      subst e
      rw [List.take_length] at hI
      go_wp2_with (go_at_call 372; refine (Go.Proofs.Tryz.Builder_String_any w.heap.size w.heap.size (joinT l) _ hI hsz).mono ?_)
      rintro e W1 ⟨rfl, b1⟩
      go_wp2
      go_ret
      exact ⟨rfl, hbw.trans b1⟩
theorem named_lt {P : Program} {n : String} {g : Nat} (h : P.globalNamed n = some g) : g < P.globals.size := by
  unfold Program.globalNamed at h
  split at h
  · rename_i g' e
    obtain rfl := Option.some.inj h
    have : g' ∈ (List.range P.globals.size).filter fun g => (P.globals[g]?).any (·.name == n) := by rw [e]; simp
    exact List.mem_range.1 (List.mem_filter.1 this).1
  · cases h
theorem rd_fact {w : World} {Z : Nat → Prop} (h : GOk P w Z) : Lib.TabIs (P : Program) w "internal/strconv.uint64pow10" .u64 Lib.pow10Tab := by
  obtain ⟨w0, hf, hz⟩ := h
  have hn : (P : Program).globalNamed "internal/strconv.uint64pow10" ≠ none := by
    have e : ((P : Program).globalNamed "internal/strconv.uint64pow10").isSome = true := by kernel_rfl
    intro h; rw [h] at e; cases e
  have h0 := hf.2.1 hn
  unfold Lib.TabIs World.var? at *
  cases hg : (P : Program).globalNamed "internal/strconv.uint64pow10" with
  | none => exact absurd hg hn
  | some g =>
    rw [hg] at h0
    simp only [Option.bind_some] at h0 ⊢
    have hlt : g < (P : Program).globals.size := named_lt hg
    rw [(hz g hlt).2]
    exact h0
theorem impl_joined (l : List Int) (hl : l.length ≤ 1000) (hbd : ∀ x ∈ l, -9223372036854775808 ≤ x ∧ x ≤ 9223372036854775807) : Sem P 339 [(.pure, .one (.sl 3 (ints l)))] [] (.one (.prim (.string ⟨(joinT l).toArray⟩))) := by
  refine sem_pure (by refine ⟨Go.Proofs.Tryz.f339, ?_, ?_, ?_⟩ <;> kernel_rfl) (by simp) fun w Z vals hG hI hZ => ?_
  obtain ⟨x, rfl, hx⟩ := ins_one hI
  obtain ⟨a, cap, rfl, h0, hc⟩ := rd_ints hx
  refine (joined_walk l a cap w hl hbd h0 hc (rd_fact hG)).mono ?_
  rintro e w' ⟨rfl, hb⟩
  exact ⟨_, [], rfl, hb, fun Z' => .one (.prim rfl), by simp, by simp⟩
end Go.AM
end
section
namespace Cc
open Go Go.AM
set_option maxRecDepth 100000
set_option maxHeartbeats 4000000
abbrev eT (l : List UInt8) : AV := .prim (.string ⟨l.toArray⟩)
abbrev T (l : List UInt8) : TV := .one (eT l)
theorem cat_b (a b : List UInt8) : (⟨a.toArray⟩ : ByteArray) ++ ⟨b.toArray⟩ = ⟨(a ++ b).toArray⟩ := by
  apply ByteArray.ext
  simp
theorem catT {a b : List UInt8} {q : Prop} (h : a.length + b.length ≤ 9000000000000000000) (hq : q) : (((⟨a.toArray⟩ : ByteArray).size + (⟨b.toArray⟩ : ByteArray).size : Nat) : Int) ≤ 9223372036854775807 ∧ q := by
  refine ⟨?_, hq⟩
  show ((a.toArray.size + b.toArray.size : Nat) : Int) ≤ _
  simp only [List.size_toArray]; omega
def codeT (n : Int) : List UInt8 := if n = 1 then [100, 111, 110, 101] else if n = 2 then [115, 116, 111, 112, 112, 101, 100] else [111, 118, 101, 114]
def resT (r : Rslt) : List UInt8 := if resOk r then codeT r.Code ++ joinT r.Tells else []
theorem resOk_iff {r : Rslt} : resOk r = true ↔ (1 ≤ r.Code ∧ r.Code ≤ 3) ∧ (r.Code = 1 ∨ r.Tells = []) ∧ r.Tells.length ≤ 6 ∧ within r.Tells r.Tells.length 999999999999 = true := by
  simp [resOk, inB_iff, and_assoc]
theorem tells_bd {r : Rslt} (h : resOk r = true) : ∀ x ∈ r.Tells, -999999999999 ≤ x ∧ x ≤ 999999999999 := (within_iff.1 (resOk_iff.1 h).2.2.2).2
theorem impl_words : Sem P 338 [] [] (.one (.sl 9 [[eT []], [eT [100, 111, 110, 101]], [eT [115, 116, 111, 112, 112, 101, 100]], [eT [111, 118, 101, 114]]])) := by
  refine fn_okR (E := E0) E0_tab E0_ord (fn := Go.Proofs.Tryz.f338) (by kernel_rfl) (by kernel_rfl) (fun hb => ?_)
  conv => whnf
  repeat' first | ((first | refine Sq.cons ?_ | refine Dr.cons ?_ | refine Sq.nil ?_ | (refine Dr.nil ?_; refine drawIf (by kernel_rfl) ?_) | refine Vc.region rfl ?_ | refine Vc.draw rfl (by kernel_rfl) ?_ | refine Vc.cond ?_ | refine Vc.block ?_ | refine Vc.ret ?_ | refine Vc.skip ?_ | refine Vc.exit ?_ | refine mkSl (by omega) (by omega) ?_); conv => whnf) | refine Vc.seq ?_ | (refine ifB_i (fun _ => ?_) (fun _ => ?_) <;> conv => whnf)
  exact ⟨rfl, rfl⟩
theorem impl_resText (r : Rslt) : Sem P 282 [(.pure, .agg (aR r))] [] (T (resT r)) := by
  by_cases hr : resOk r = true
  · have hb3 := tells_bd hr
    have e : resT r = codeT r.Code ++ joinT r.Tells := by rw [resT, if_pos hr]
    rw [e]
    obtain ⟨⟨h1, h2⟩, h3, h4, h5⟩ := resOk_iff.1 hr
    obtain ⟨code, tells⟩ := r
    simp only at h1 h2 h3 h4 h5 hb3 ⊢
    have hj := joinT_len (l := tells) fun x hx => by have := hb3 x hx; omega
    have lt := ints_len tells
    rw [← lt] at h5
    have hc : code = 1 ∨ code = 2 ∨ code = 3 := by omega
    rcases hc with rfl | rfl | rfl
    all_goals
      refine fn_okR (E := E0) E0_tab E0_ord (fn := Go.Proofs.Tryz.f282) (by kernel_rfl) (by kernel_rfl) (fun hb => ?_)
      conv => whnf
      repeat' first | ((first | refine Sq.cons ?_ | refine Dr.cons ?_ | refine Sq.nil ?_ | (refine Dr.nil ?_; refine drawIf (by kernel_rfl) ?_) | refine Vc.region rfl ?_ | refine Vc.draw rfl (by kernel_rfl) ?_ | refine Vc.cond ?_ | refine Vc.block ?_ | refine Vc.ret ?_ | refine Vc.skip ?_ | refine Vc.exit ?_ | refine mkSl (by omega) (by omega) ?_); conv => whnf) | refine Vc.seq ?_ | (refine ifB_i (fun _ => ?_) (fun _ => ?_) <;> conv => whnf) | (refine ⟨_, impl_in _ _ _, ?_⟩; conv => whnf) | (refine ⟨_, impl_within tells (ints tells).length _ (by omega), ?_⟩; conv => whnf) | (refine ⟨_, impl_words, ?_⟩; conv => whnf) | (refine ⟨_, impl_joined tells (by omega) (fun x hx => by have := hb3 x hx; omega), ?_⟩; conv => whnf) | (refine ixC (by dsimp only; decide) rfl ?_; conv => whnf) | (refine catT (by simp; omega) ?_; rw [cat_b]; conv => whnf)
      all_goals first
        | exact ⟨rfl, rfl⟩
        | (exfalso; simp_all; done)
        | (exfalso; simp_all; omega)
  · have e : resT r = [] := by rw [resT, if_neg hr]
    rw [e]
    refine fn_okR (E := E0) E0_tab E0_ord (fn := Go.Proofs.Tryz.f282) (by kernel_rfl) (by kernel_rfl) (fun hb => ?_)
    have lt := ints_len r.Tells
    conv => whnf
    repeat' first | ((first | refine Sq.cons ?_ | refine Dr.cons ?_ | refine Sq.nil ?_ | (refine Dr.nil ?_; refine drawIf (by kernel_rfl) ?_) | refine Vc.region rfl ?_ | refine Vc.draw rfl (by kernel_rfl) ?_ | refine Vc.cond ?_ | refine Vc.block ?_ | refine Vc.ret ?_ | refine Vc.skip ?_ | refine Vc.exit ?_ | refine mkSl (by omega) (by omega) ?_); conv => whnf) | refine Vc.seq ?_ | (refine ifB_i (fun _ => ?_) (fun _ => ?_) <;> conv => whnf) | (refine ⟨_, impl_in _ _ _, ?_⟩; conv => whnf) | (refine ⟨_, impl_within r.Tells (ints r.Tells).length _ (by omega), ?_⟩; conv => whnf)
    all_goals first
      | exact ⟨rfl, rfl⟩
      | (exfalso; refine hr (resOk_iff.2 ?_); simp_all [inB_iff]; done)
      | (exfalso; refine hr (resOk_iff.2 ?_); simp_all [inB_iff]; omega)
theorem text_ne (l : List UInt8) : (!((⟨l.toArray⟩ : ByteArray).toList == (⟨#[]⟩ : ByteArray).toList)) = !l.isEmpty := by
  rw [ByteArray.toList_mk, show (⟨#[]⟩ : ByteArray) = ⟨([] : List UInt8).toArray⟩ from rfl, ByteArray.toList_mk]
  cases l <;> rfl
theorem resT_ne (r : Rslt) : (!(resT r).isEmpty) = resOk r := by
  unfold resT
  cases h : resOk r
  · rfl
  · simp only [if_true]
    unfold codeT
    split <;> (try split) <;> rfl
theorem impl_resOk (r : Rslt) : Sem P 179 [(.pure, .agg (aR r))] [] (B (resOk r)) := by
  refine fn_okR (E := E0) E0_tab E0_ord (fn := Go.Proofs.Tryz.f179) (by kernel_rfl) (by kernel_rfl) (fun hb => ?_)
  conv => whnf
  repeat' first | ((first | refine Sq.cons ?_ | refine Dr.cons ?_ | refine Sq.nil ?_ | (refine Dr.nil ?_; refine drawIf (by kernel_rfl) ?_) | refine Vc.region rfl ?_ | refine Vc.draw rfl (by kernel_rfl) ?_ | refine Vc.cond ?_ | refine Vc.block ?_ | refine Vc.ret ?_ | refine Vc.skip ?_ | refine Vc.exit ?_ | refine mkSl (by omega) (by omega) ?_); conv => whnf) | refine Vc.seq ?_ | (refine ifB_i (fun _ => ?_) (fun _ => ?_) <;> conv => whnf) | (refine ⟨_, impl_resText r, ?_⟩; conv => whnf)
  exact rB (by rw [← resT_ne, ← text_ne])
end Cc
end
section
namespace Cc
open Go Go.AM
set_option maxRecDepth 100000
set_option maxHeartbeats 4000000
theorem log_1 (p : Plan) (hc : inB p.Clients 0 4 = true) (x : LogD) : Sem P 177 [(.pure, .agg (aO x)), (.pure, .one (.fp [] (aPl p) 0))] [] (B (!(callB p x.Call && resOk x.Res))) := by
  refine fn_okR (E := E0) E0_tab E0_ord (fn := Go.Proofs.Tryz.f177) (by kernel_rfl) (by kernel_rfl) (fun hb => ?_)
  conv => whnf
  repeat' first | ((first | refine Sq.cons ?_ | refine Dr.cons ?_ | refine Sq.nil ?_ | (refine Dr.nil ?_; refine drawIf (by kernel_rfl) ?_) | refine Vc.region rfl ?_ | refine Vc.draw rfl (by kernel_rfl) ?_ | refine Vc.cond ?_ | refine Vc.block ?_ | refine Vc.ret ?_ | refine Vc.skip ?_ | refine Vc.exit ?_ | refine mkSl (by omega) (by omega) ?_); conv => whnf) | refine Vc.seq ?_ | (refine ifB_i (fun _ => ?_) (fun _ => ?_) <;> conv => whnf) | (refine ⟨_, impl_callOk p x.Call hc, ?_⟩; conv => whnf) | (refine ⟨_, impl_resOk x.Res, ?_⟩; conv => whnf)
  all_goals exact rB (by simp_all)
theorem log_any_ix (p : Plan) (hc : inB p.Clients 0 4 = true) (l : List LogD) : Sem P 281 [(.pure, .one (sOs l)), (.pure, .one (.fn 177 [.fp [] (aPl p) 0]))] [] (I (idxOf (fun (x : LogD) => !(callB p x.Call && resOk x.Res)) l)) := by
  refine fn_okR (E := E0) E0_tab E0_ord (fn := Go.Proofs.Tryz.f281) (by kernel_rfl) (by kernel_rfl) (fun hb => ?_)
  have la : (l.map eO).length = l.length := List.length_map ..
  have hb1 : (l.map eO).length ≤ 1125899906842624 := hb.1.1
  conv => whnf
  (repeat' first | ((first | refine Sq.cons ?_ | refine Dr.cons ?_ | refine Sq.nil ?_ | (refine Dr.nil ?_; refine drawIf (by kernel_rfl) ?_) | refine Vc.region rfl ?_ | refine Vc.draw rfl (by kernel_rfl) ?_ | refine Vc.cond ?_ | refine Vc.block ?_ | refine Vc.ret ?_ | refine Vc.skip ?_ | refine Vc.exit ?_ | refine mkSl (by omega) (by omega) ?_); conv => whnf) | refine Vc.seq ?_)
  refine Vc.loop { i : Nat // ∀ j, j < i → j < l.length → (fun (x : LogD) => !(callB p x.Call && resOk x.Res)) (l.getD j default) = false } (fun i => updL [0, 1, 7] [(8, I i.1)] []) (fun i => l.length - i.1) ⟨0, by simp⟩ ?_ (fun i => ?_)
  · repeat' (first | exact True.intro | ((conv => whnf); first | exact True.intro | refine ⟨by rfl, ?_⟩ | refine ⟨?_, ?_⟩))
  · have hi := i.2
    conv => whnf
    (repeat' first | ((first | refine Sq.cons ?_ | refine Dr.cons ?_ | refine Sq.nil ?_ | (refine Dr.nil ?_; refine drawIf (by kernel_rfl) ?_) | refine Vc.region rfl ?_ | refine Vc.draw rfl (by kernel_rfl) ?_ | refine Vc.cond ?_ | refine Vc.block ?_ | refine Vc.ret ?_ | refine Vc.skip ?_ | refine Vc.exit ?_ | refine mkSl (by omega) (by omega) ?_); conv => whnf) | refine Vc.seq ?_)
    refine ifB_d (fun g => ?_) (fun g => ?_)
    all_goals conv => whnf
    · repeat' first | ((first | refine Sq.cons ?_ | refine Dr.cons ?_ | refine Sq.nil ?_ | (refine Dr.nil ?_; refine drawIf (by kernel_rfl) ?_) | refine Vc.region rfl ?_ | refine Vc.draw rfl (by kernel_rfl) ?_ | refine Vc.cond ?_ | refine Vc.block ?_ | refine Vc.ret ?_ | refine Vc.skip ?_ | refine Vc.exit ?_ | refine mkSl (by omega) (by omega) ?_); conv => whnf) | refine Vc.seq ?_ | (refine ifB_i (fun _ => ?_) (fun _ => ?_) <;> conv => whnf) | (refine ixN (enc := eO) default (by omega) ?_; conv => whnf) | (refine ⟨_, log_1 p hc _, ?_⟩; conv => whnf) | (refine w64 (by omega) (by omega) ?_; conv => whnf)
      · rename_i h
        exact rI' (idx_hit (p := fun (x : LogD) => !(callB p x.Call && resOk x.Res)) default (by omega) h fun j hj => hi j hj (by omega)).symm
      · rename_i h
        refine ⟨⟨i.1 + 1, fun j hj hl => ?_⟩, ?_, ?_⟩
        · by_cases hji : j < i.1
          · exact hi j hji hl
          · obtain rfl : j = i.1 := by omega
            exact h
        · simp only; omega
        · repeat' (first | exact True.intro | ((conv => whnf); first | exact True.intro | refine ⟨by rfl, ?_⟩ | refine ⟨?_, ?_⟩))
    · (repeat' first | ((first | refine Sq.cons ?_ | refine Dr.cons ?_ | refine Sq.nil ?_ | (refine Dr.nil ?_; refine drawIf (by kernel_rfl) ?_) | refine Vc.region rfl ?_ | refine Vc.draw rfl (by kernel_rfl) ?_ | refine Vc.cond ?_ | refine Vc.block ?_ | refine Vc.ret ?_ | refine Vc.skip ?_ | refine Vc.exit ?_ | refine mkSl (by omega) (by omega) ?_); conv => whnf) | refine Vc.seq ?_)
      exact rI' (idx_none (p := fun (x : LogD) => !(callB p x.Call && resOk x.Res)) default fun j hj => hi j (by omega) hj).symm
theorem log_any (p : Plan) (hc : inB p.Clients 0 4 = true) (l : List LogD) : Sem P 176 [(.pure, .one (sOs l)), (.pure, .one (.fn 177 [.fp [] (aPl p) 0]))] [] (B (l.any fun (x : LogD) => !(callB p x.Call && resOk x.Res))) := by
  refine fn_okR (E := E0) E0_tab E0_ord (fn := Go.Proofs.Tryz.f176) (by kernel_rfl) (by kernel_rfl) (fun hb => ?_)
  conv => whnf
  repeat' first | ((first | refine Sq.cons ?_ | refine Dr.cons ?_ | refine Sq.nil ?_ | (refine Dr.nil ?_; refine drawIf (by kernel_rfl) ?_) | refine Vc.region rfl ?_ | refine Vc.draw rfl (by kernel_rfl) ?_ | refine Vc.cond ?_ | refine Vc.block ?_ | refine Vc.ret ?_ | refine Vc.skip ?_ | refine Vc.exit ?_ | refine mkSl (by omega) (by omega) ?_); conv => whnf) | refine Vc.seq ?_ | (refine ifB_i (fun _ => ?_) (fun _ => ?_) <;> conv => whnf) | (refine ⟨_, log_any_ix p hc l, ?_⟩; conv => whnf)
  exact rB (idx_any _ _)
theorem impl_logOk (p : Plan) (hc : inB p.Clients 0 4 = true) (l : List LogD) : Sem P 76 [(.pure, .agg (aPl p)), (.pure, .one (sOs l))] [] (B (logB p l)) := by
  refine fn_okR (E := E0) E0_tab E0_ord (fn := Go.Proofs.Tryz.f76) (by kernel_rfl) (by kernel_rfl) (fun hb => ?_)
  have la : (l.map eO).length = l.length := List.length_map ..
  conv => whnf
  repeat' first | ((first | refine Sq.cons ?_ | refine Dr.cons ?_ | refine Sq.nil ?_ | (refine Dr.nil ?_; refine drawIf (by kernel_rfl) ?_) | refine Vc.region rfl ?_ | refine Vc.draw rfl (by kernel_rfl) ?_ | refine Vc.cond ?_ | refine Vc.block ?_ | refine Vc.ret ?_ | refine Vc.skip ?_ | refine Vc.exit ?_ | refine mkSl (by omega) (by omega) ?_); conv => whnf) | refine Vc.seq ?_ | (refine ifB_i (fun _ => ?_) (fun _ => ?_) <;> conv => whnf) | (refine ⟨_, log_any p hc l, ?_⟩; conv => whnf)
  all_goals first
    | (refine rB ?_; rw [any_all]; simp_all [logB]; intros; omega)
    | (refine rB ?_; simp_all [logB]; intros; omega)
end Cc
end
section
namespace Cc
open Go Go.AM
set_option maxRecDepth 100000
set_option maxHeartbeats 4000000
theorem plan_clients {p : Plan} (h : planOk p = true) : inB p.Clients 0 4 = true := by
  simp only [planOk, Bool.and_eq_true] at h
  have := inB_iff.1 h.1.1.1
  exact inB_iff.2 (by omega)
theorem plan_start {p : Plan} (h : planOk p = true) : p.Start.length = 3 := by
  simp only [planOk, Bool.and_eq_true] at h
  exact (within_iff.1 h.1.2).1
theorem logB_iff {p : Plan} {l : List LogD} : logB p l = true ↔ l.length ≤ 100 ∧ ∀ x ∈ l, callB p x.Call = true ∧ resOk x.Res = true := by
  simp [logB]
theorem call_act {p : Plan} {c : Call} {q : Prop} (h : callB p c = true ∧ q) : 0 ≤ c.Act ∧ c.Act < p.Acts.length := by
  have h := h.1
  simp only [callB, Bool.and_eq_true] at h
  have := inB_iff.1 h.1.2
  omega
theorem app_res (l : List Rslt) (r : Rslt) : l.map eR ++ [eR r] = (l ++ [r]).map eR := by simp
theorem impl_serRun (p : Plan) (l : List LogD) (h : (planOk p && logB p l) = true) : Sem P 13 [(.pure, .agg (aPl p)), (.pure, .one (sOs l))] [] (.tup [(false, [sRs (serRun p l).1]), (false, [fI (serRun p l).2])]) := by
  have e0 : serRun p l = serGo p l p.Start := by rw [serRun, if_pos h]
  obtain ⟨hp, hl⟩ : planOk p = true ∧ logB p l = true := by simpa using h
  have hc : inB p.Clients 0 4 = true := plan_clients hp
  have hs : p.Start.length = 3 := plan_start hp
  obtain ⟨h100, hcall⟩ := logB_iff.1 hl
  rw [e0]
  refine fn_okR (E := E0) E0_tab E0_ord (fn := Go.Proofs.Tryz.f13) (by kernel_rfl) (by kernel_rfl) (fun hb => ?_)
  have la : (l.map eO).length = l.length := List.length_map ..
  have lp : (p.Acts.map eA).length = p.Acts.length := List.length_map ..
  have ls := ints_len p.Start
  conv => whnf
  repeat' first | ((first | refine Sq.cons ?_ | refine Dr.cons ?_ | refine Sq.nil ?_ | (refine Dr.nil ?_; refine drawIf (by kernel_rfl) ?_) | refine Vc.region rfl ?_ | refine Vc.draw rfl (by kernel_rfl) ?_ | refine Vc.cond ?_ | refine Vc.block ?_ | refine Vc.ret ?_ | refine Vc.skip ?_ | refine Vc.exit ?_ | refine mkSl (by omega) (by omega) ?_); conv => whnf) | refine Vc.seq ?_ | (refine ifB_i (fun _ => ?_) (fun _ => ?_) <;> conv => whnf) | (refine ⟨_, impl_planOk p, ?_⟩; conv => whnf) | (refine ⟨_, impl_logOk p hc l, ?_⟩; conv => whnf) | (refine ⟨_, ints_clone p.Start (by omega), ?_⟩; conv => whnf)
  · rename_i g; rw [hp] at g; cases g
  · rename_i g; rw [hl] at g; cases g
  · refine Vc.loop3 (fun (i : Nat) (rs : List Rslt) (vals : List Int) => i ≤ l.length ∧ rs.length = i ∧ serGo p l p.Start = (rs ++ (serGo p (l.drop i) vals).1, (serGo p (l.drop i) vals).2)) (fun i rs vals => updL [2, 4, 5, 24, 25, 51, 52] [(26, I i), (6, .one (.ref 256000)), (7, .one (fI vals))] [(256000, .arr 37 (rs.map eR) false)]) (fun i _ _ => l.length - i) 0 [] p.Start ⟨by omega, rfl, rfl⟩ ?_ (fun i rs vals hi => ?_)
    · repeat' (first | exact True.intro | ((conv => whnf); first | exact True.intro | refine ⟨by rfl, ?_⟩ | refine ⟨?_, ?_⟩))
    · obtain ⟨hi, hr, hg⟩ := hi
      have lr : (rs.map eR).length = rs.length := List.length_map ..
      conv => whnf
      (repeat' first | ((first | refine Sq.cons ?_ | refine Dr.cons ?_ | refine Sq.nil ?_ | (refine Dr.nil ?_; refine drawIf (by kernel_rfl) ?_) | refine Vc.region rfl ?_ | refine Vc.draw rfl (by kernel_rfl) ?_ | refine Vc.cond ?_ | refine Vc.block ?_ | refine Vc.ret ?_ | refine Vc.skip ?_ | refine Vc.exit ?_ | refine mkSl (by omega) (by omega) ?_); conv => whnf) | refine Vc.seq ?_)
      refine ifB_d (fun g => ?_) (fun g => ?_)
      all_goals conv => whnf
      · have hil : i < l.length := by omega
        obtain ⟨x, hx⟩ : ∃ x, l[i]? = some x := ⟨_, List.getElem?_eq_getElem hil⟩
        have hxc := hcall x (List.mem_of_getElem? hx)
        have hd : l.drop i = x :: l.drop (i + 1) := by
          rw [List.drop_eq_getElem_cons hil]
          rw [List.getElem?_eq_getElem hil] at hx
          rw [Option.some.inj hx]
        rw [hd, serGo] at hg
        have hact := call_act hxc
        repeat' first | ((first | refine Sq.cons ?_ | refine Dr.cons ?_ | refine Sq.nil ?_ | (refine Dr.nil ?_; refine drawIf (by kernel_rfl) ?_) | refine Vc.region rfl ?_ | refine Vc.draw rfl (by kernel_rfl) ?_ | refine Vc.cond ?_ | refine Vc.block ?_ | refine Vc.ret ?_ | refine Vc.skip ?_ | refine Vc.exit ?_ | refine mkSl (by omega) (by omega) ?_); conv => whnf) | refine Vc.seq ?_ | (refine ifB_i (fun _ => ?_) (fun _ => ?_) <;> conv => whnf) | (refine ixE (enc := eO) hx ?_; conv => whnf) | (refine ixI (enc := eA) (L := p.Acts) [] hact.1 hact.2 ?_; conv => whnf) | (refine ⟨_, impl_actRun (p.Acts.getD x.Call.Act.toNat []) vals x.Call.Args, ?_⟩; conv => whnf) | (refine w64 (by first | omega | (dsimp only; omega)) (by first | omega | (dsimp only; omega)) ?_; conv => whnf) | (refine apN (by simp; omega) ?_; conv => whnf)
        refine ⟨i + 1, rs ++ [(actRun (p.Acts.getD x.Call.Act.toNat []) vals x.Call.Args).1], (actRun (p.Acts.getD x.Call.Act.toNat []) vals x.Call.Args).2, ⟨by omega, by simp [hr], by rw [hg]; simp⟩, by simp only; omega, ?_⟩
        repeat' (first | exact True.intro | ((conv => whnf); first | exact True.intro | refine ⟨by rfl, ?_⟩ | refine ⟨by first | omega | (show (_ : Int) = _; first | omega | (dsimp only; omega)) | exact app_res _ _, ?_⟩ | refine ⟨?_, ?_⟩))
      · repeat' first | ((first | refine Sq.cons ?_ | refine Dr.cons ?_ | refine Sq.nil ?_ | (refine Dr.nil ?_; refine drawIf (by kernel_rfl) ?_) | refine Vc.region rfl ?_ | refine Vc.draw rfl (by kernel_rfl) ?_ | refine Vc.cond ?_ | refine Vc.block ?_ | refine Vc.ret ?_ | refine Vc.skip ?_ | refine Vc.exit ?_ | refine mkSl (by omega) (by omega) ?_); conv => whnf) | refine Vc.seq ?_ | (refine ifB_i (fun _ => ?_) (fun _ => ?_) <;> conv => whnf)
        have e : i = l.length := by omega
        subst e
        rw [List.drop_length, serGo] at hg
        exact ⟨by rw [hg]; simp, rfl⟩
end Cc
end
section
namespace Cc
open Go Go.AM
set_option maxRecDepth 100000
set_option maxHeartbeats 4000000
abbrev fBy (bs : List UInt8) : AV := .fr [] 5 (bytesRows bs)
abbrev aRd (bs : List UInt8) (a : Int) : List AV := [fBy bs, eI a]
theorem ixB {L : List UInt8} {i : Int} {k : List AV → Prop} (h0 : 0 ≤ i) (h : i < L.length) (hk : ∀ c : Int, 0 ≤ c ∧ c ≤ 255 → k [.prim (.int .u8 c)]) : 0 ≤ i ∧ ∃ row, (bytesRows L)[i.toNat]? = some row ∧ k row := by
  refine ⟨h0, [.prim (.int .u8 (L[i.toNat]'(by omega)).toNat)], ?_, hk _ ⟨by omega, ?_⟩⟩
  · rw [bytesRows, List.getElem?_map, List.getElem?_eq_getElem (by omega)]; rfl
  · have := (L[i.toNat]'(by omega)).toNat_lt; omega
theorem xor64 {a b : Int} {k : Int → Prop} (ha : 0 ≤ a ∧ a < 4611686018427387904) (hb : 0 ≤ b ∧ b < 4611686018427387904) (hk : ∀ c : Int, 0 ≤ c ∧ c < 4611686018427387904 → k c) : ∃ c, IntKind.i64.wrap (BitVec.ofInt IntKind.i64.bits a ^^^ BitVec.ofInt IntKind.i64.bits b).toNat = c ∧ k c := by
  have hx : (BitVec.ofInt IntKind.i64.bits a ^^^ BitVec.ofInt IntKind.i64.bits b).toNat = a.toNat ^^^ b.toNat := by
    show (BitVec.ofInt 64 a ^^^ BitVec.ofInt 64 b).toNat = _
    rw [BitVec.toNat_xor, BitVec.toNat_ofInt, BitVec.toNat_ofInt]
    congr 1 <;> omega
  have hlt : a.toNat ^^^ b.toNat < 2 ^ 62 := Nat.xor_lt_two_pow (by omega) (by omega)
  refine ⟨_, rfl, ?_⟩
  rw [hx, wrap64 (by omega) (by omega)]
  exact hk _ ⟨by omega, by omega⟩
theorem draw_pick (bs : List UInt8) (a k : Int) (ha : 0 ≤ a ∧ a ≤ 1000000000000) (hk : 1 ≤ k ∧ k ≤ 1000000000) (hbs : bs.length ≤ 2000) :
    ∃ os res, (∃ n, (0 ≤ n ∧ n < k) ∧ res = I n ∧ os = aRd bs (a + 1)) ∧ Sem P 72 [(.io 0 0, .agg (aRd bs a)), (.pure, I k)] [.agg os] res := by
  have key : ∃ res outs, (∃ n, (0 ≤ n ∧ n < k) ∧ res = I n ∧ outs = [.agg (aRd bs (a + 1))]) ∧ Sem P 72 [(.io 0 0, .agg (aRd bs a)), (.pure, I k)] outs res := by
    refine fn_someR (E := E0) E0_tab E0_ord (fn := Go.Proofs.Tryz.f72) (by kernel_rfl) (by kernel_rfl) ?_
    have lb : (bytesRows bs).length = bs.length := List.length_map ..
    conv => whnf
    repeat' first | ((first | refine Sq.cons ?_ | refine Dr.cons ?_ | refine Sq.nil ?_ | (refine Dr.nil ?_; refine drawIf (by kernel_rfl) ?_) | refine Vc.region rfl ?_ | refine Vc.draw rfl (by kernel_rfl) ?_ | refine Vc.cond ?_ | refine Vc.block ?_ | refine Vc.ret ?_ | refine Vc.skip ?_ | refine Vc.exit ?_ | refine mkSl (by omega) (by omega) ?_); conv => whnf) | refine Vc.seq ?_ | (refine ifB_i (fun _ => ?_) (fun _ => ?_) <;> conv => whnf) | (refine w64 (by omega) (by omega) ?_; conv => whnf)
    · exact ⟨0, ⟨by omega, by omega⟩, rfl, rfl⟩
    · exact ⟨0, ⟨by omega, by omega⟩, rfl, rfl⟩
    · rename_i g1 g2 g3
      simp only [decide_eq_true_eq, decide_eq_false_iff_not, beq_eq_false_iff_ne] at g1 g2 g3
      refine ixB (by omega) (by omega) fun c hc => ?_
      conv => whnf
      repeat' first | ((first | refine Sq.cons ?_ | refine Dr.cons ?_ | refine Sq.nil ?_ | (refine Dr.nil ?_; refine drawIf (by kernel_rfl) ?_) | refine Vc.region rfl ?_ | refine Vc.draw rfl (by kernel_rfl) ?_ | refine Vc.cond ?_ | refine Vc.block ?_ | refine Vc.ret ?_ | refine Vc.skip ?_ | refine Vc.exit ?_ | refine mkSl (by omega) (by omega) ?_); conv => whnf) | refine Vc.seq ?_ | (refine ifB_i (fun _ => ?_) (fun _ => ?_) <;> conv => whnf) | (refine w64 (by omega) (by omega) ?_; conv => whnf) | (refine r64 (by omega) (by omega) ?_; conv => whnf)
      have := Int.emod_nonneg c (b := k) (by omega)
      have := Int.emod_lt_of_pos c (b := k) (by omega)
      exact ⟨c % k, ⟨by omega, by omega⟩, rfl, rfl⟩
    · rename_i g1 g2 g3
      simp only [decide_eq_true_eq, decide_eq_false_iff_not, beq_eq_false_iff_ne] at g1 g2 g3
      have hl : (0 : Int) < (bytesRows bs).length := by omega
      have e1 := Int.emod_nonneg (a + 1 - 1) (b := ((bytesRows bs).length : Int)) (by omega)
      have e2 := Int.emod_lt_of_pos (a + 1 - 1) (b := ((bytesRows bs).length : Int)) (by omega)
      refine r64 (by omega) (by omega) ?_
      generalize (a + 1 - 1) % ((bytesRows bs).length : Int) = i at e1 e2
      conv => whnf
      repeat' first | ((first | refine Sq.cons ?_ | refine Dr.cons ?_ | refine Sq.nil ?_ | (refine Dr.nil ?_; refine drawIf (by kernel_rfl) ?_) | refine Vc.region rfl ?_ | refine Vc.draw rfl (by kernel_rfl) ?_ | refine Vc.cond ?_ | refine Vc.block ?_ | refine Vc.ret ?_ | refine Vc.skip ?_ | refine Vc.exit ?_ | refine mkSl (by omega) (by omega) ?_); conv => whnf) | refine Vc.seq ?_ | (refine ifB_i (fun _ => ?_) (fun _ => ?_) <;> conv => whnf) | (refine w64 (by omega) (by omega) ?_; conv => whnf)
      refine ixB (by omega) (by omega) fun c hc => ?_
      conv => whnf
      repeat' first | ((first | refine Sq.cons ?_ | refine Dr.cons ?_ | refine Sq.nil ?_ | (refine Dr.nil ?_; refine drawIf (by kernel_rfl) ?_) | refine Vc.region rfl ?_ | refine Vc.draw rfl (by kernel_rfl) ?_ | refine Vc.cond ?_ | refine Vc.block ?_ | refine Vc.ret ?_ | refine Vc.skip ?_ | refine Vc.exit ?_ | refine mkSl (by omega) (by omega) ?_); conv => whnf) | refine Vc.seq ?_ | (refine ifB_i (fun _ => ?_) (fun _ => ?_) <;> conv => whnf) | (refine w64 (by omega) (by omega) ?_; conv => whnf)
      have e3 := Int.emod_nonneg ((a + 1 - 1) * 7 + 3) (b := ((bytesRows bs).length : Int)) (by omega)
      have e4 := Int.emod_lt_of_pos ((a + 1 - 1) * 7 + 3) (b := ((bytesRows bs).length : Int)) (by omega)
      refine r64 (by omega) (by omega) ?_
      generalize ((a + 1 - 1) * 7 + 3) % ((bytesRows bs).length : Int) = i' at e3 e4
      conv => whnf
      repeat' first | ((first | refine Sq.cons ?_ | refine Dr.cons ?_ | refine Sq.nil ?_ | (refine Dr.nil ?_; refine drawIf (by kernel_rfl) ?_) | refine Vc.region rfl ?_ | refine Vc.draw rfl (by kernel_rfl) ?_ | refine Vc.cond ?_ | refine Vc.block ?_ | refine Vc.ret ?_ | refine Vc.skip ?_ | refine Vc.exit ?_ | refine mkSl (by omega) (by omega) ?_); conv => whnf) | refine Vc.seq ?_ | (refine ifB_i (fun _ => ?_) (fun _ => ?_) <;> conv => whnf) | (refine w64 (by omega) (by omega) ?_; conv => whnf)
      refine ixB (by omega) (by omega) fun c' hc' => ?_
      conv => whnf
      repeat' first | ((first | refine Sq.cons ?_ | refine Dr.cons ?_ | refine Sq.nil ?_ | (refine Dr.nil ?_; refine drawIf (by kernel_rfl) ?_) | refine Vc.region rfl ?_ | refine Vc.draw rfl (by kernel_rfl) ?_ | refine Vc.cond ?_ | refine Vc.block ?_ | refine Vc.ret ?_ | refine Vc.skip ?_ | refine Vc.exit ?_ | refine mkSl (by omega) (by omega) ?_); conv => whnf) | refine Vc.seq ?_ | (refine ifB_i (fun _ => ?_) (fun _ => ?_) <;> conv => whnf) | (refine w64 (by omega) (by omega) ?_; conv => whnf)
      have e5 := Int.ediv_nonneg (a := a + 1 - 1) (b := ((bytesRows bs).length : Int)) (by omega) (by omega)
      have e6 := Int.ediv_le_self (a := a + 1 - 1) ((bytesRows bs).length : Int) (by omega)
      refine q64 (by omega) (by omega) (by omega) ?_
      generalize (a + 1 - 1) / ((bytesRows bs).length : Int) = q at e5 e6
      conv => whnf
      repeat' first | ((first | refine Sq.cons ?_ | refine Dr.cons ?_ | refine Sq.nil ?_ | (refine Dr.nil ?_; refine drawIf (by kernel_rfl) ?_) | refine Vc.region rfl ?_ | refine Vc.draw rfl (by kernel_rfl) ?_ | refine Vc.cond ?_ | refine Vc.block ?_ | refine Vc.ret ?_ | refine Vc.skip ?_ | refine Vc.exit ?_ | refine mkSl (by omega) (by omega) ?_); conv => whnf) | refine Vc.seq ?_ | (refine ifB_i (fun _ => ?_) (fun _ => ?_) <;> conv => whnf) | (refine w64 (by omega) (by omega) ?_; conv => whnf)
      have hs : 0 ≤ c * 131 + c' * 1117 + (a + 1 - 1) * 29 + q * 53 ∧ c * 131 + c' * 1117 + (a + 1 - 1) * 29 + q * 53 < 4611686018427387904 := by omega
      generalize c * 131 + c' * 1117 + (a + 1 - 1) * 29 + q * 53 = s at hs
      have e7 := Int.ediv_nonneg (a := s) (b := 64) (by omega) (by omega)
      have e8 := Int.ediv_le_self (a := s) 64 (by omega)
      refine q64 (by omega) (by omega) (by omega) ?_
      generalize s / 64 = s' at e7 e8
      conv => whnf
      repeat' first | ((first | refine Sq.cons ?_ | refine Dr.cons ?_ | refine Sq.nil ?_ | (refine Dr.nil ?_; refine drawIf (by kernel_rfl) ?_) | refine Vc.region rfl ?_ | refine Vc.draw rfl (by kernel_rfl) ?_ | refine Vc.cond ?_ | refine Vc.block ?_ | refine Vc.ret ?_ | refine Vc.skip ?_ | refine Vc.exit ?_ | refine mkSl (by omega) (by omega) ?_); conv => whnf) | refine Vc.seq ?_ | (refine ifB_i (fun _ => ?_) (fun _ => ?_) <;> conv => whnf)
      refine xor64 hs (by omega) fun d hd => ?_
      conv => whnf
      repeat' first | ((first | refine Sq.cons ?_ | refine Dr.cons ?_ | refine Sq.nil ?_ | (refine Dr.nil ?_; refine drawIf (by kernel_rfl) ?_) | refine Vc.region rfl ?_ | refine Vc.draw rfl (by kernel_rfl) ?_ | refine Vc.cond ?_ | refine Vc.block ?_ | refine Vc.ret ?_ | refine Vc.skip ?_ | refine Vc.exit ?_ | refine mkSl (by omega) (by omega) ?_); conv => whnf) | refine Vc.seq ?_ | (refine ifB_i (fun _ => ?_) (fun _ => ?_) <;> conv => whnf) | (refine r64 (by omega) (by omega) ?_; conv => whnf)
      have := Int.emod_nonneg d (b := k) (by omega)
      have := Int.emod_lt_of_pos d (b := k) (by omega)
      exact ⟨d % k, ⟨by omega, by omega⟩, rfl, rfl⟩
  obtain ⟨r, o, ⟨n, h1, h2, rfl⟩, h3⟩ := key
  exact ⟨_, r, ⟨n, h1, h2, rfl⟩, h3⟩
end Cc
end
section
namespace Cc
open Go Go.AM
set_option maxRecDepth 100000
set_option maxHeartbeats 4000000
theorem rwL (L : List Int) {n : Int} {rows : List (List AV)} {k : List AV → Prop} (hr : rows = ints L) (h0 : 0 ≤ n) (h : n < L.length) (hk : ∀ c ∈ L, k (rI c)) : ∃ row, rows[n.toNat]? = some row ∧ k row := by
  subst hr
  refine ⟨rI (L[n.toNat]'(by omega)), by rw [List.getElem?_map, List.getElem?_eq_getElem (by omega)]; rfl, hk _ (List.getElem_mem _)⟩
def coef (l : List Int) (n : Nat) : Prop := l.length = n ∧ ∀ x ∈ l, -2 ≤ x ∧ x ≤ 2
theorem coef.set {l : List Int} {n i : Nat} {c : Int} (h : coef l n) (hc : -2 ≤ c ∧ c ≤ 2) : coef (l.set i c) n := by
  refine ⟨by rw [List.length_set]; exact h.1, fun x hx => ?_⟩
  rcases List.mem_or_eq_of_mem_set hx with h' | rfl
  · exact h.2 x h'
  · exact hc
theorem small_of {l m : List Int} {k : Int} (hl : coef l 3) (hm : coef m 2) (hk : -20 ≤ k ∧ k ≤ 20) : (⟨l, m, k⟩ : Form).small = true := by
  simp only [Form.small, Bool.and_eq_true]
  exact ⟨⟨within_iff.2 hl, within_iff.2 hm⟩, inB_iff.2 hk⟩
theorem draw_small (bs : List UInt8) (a : Int) (ha : 0 ≤ a ∧ a ≤ 100000000000) (hbs : bs.length ≤ 2000) :
    ∃ os res, (∃ f a', (a ≤ a' ∧ a' ≤ a + 6) ∧ f.small = true ∧ res = .agg (aF f) ∧ os = aRd bs a') ∧ Sem P 336 [(.io 0 0, .agg (aRd bs a))] [.agg os] res := by
  have key : ∃ res outs, (∃ f a', (a ≤ a' ∧ a' ≤ a + 6) ∧ f.small = true ∧ res = .agg (aF f) ∧ outs = [.agg (aRd bs a')]) ∧ Sem P 336 [(.io 0 0, .agg (aRd bs a))] outs res := by
    refine fn_someR (E := { E0 with keep := [2000] }) E0_tab E0_ord (fn := Go.Proofs.Tryz.f336) (by kernel_rfl) (by kernel_rfl) ?_
    conv => whnf
    repeat' first | ((first | refine Sq.cons ?_ | refine Dr.cons ?_ | refine Sq.nil ?_ | (refine Dr.nil ?_; refine drawIf (by kernel_rfl) ?_) | refine Vc.region rfl ?_ | refine Vc.draw rfl (by kernel_rfl) ?_ | refine Vc.cond ?_ | refine Vc.block ?_ | refine Vc.ret ?_ | refine Vc.skip ?_ | refine Vc.exit ?_ | refine mkSl (by omega) (by omega) ?_); conv => whnf) | refine Vc.seq ?_ | (refine ifB_i (fun _ => ?_) (fun _ => ?_) <;> conv => whnf) | (refine ⟨_, spec_zero, ?_⟩; conv => whnf)
    refine Vc.loop3 (fun (i : Nat) (l : List Int) (b : Int) => i ≤ 3 ∧ coef l 3 ∧ a ≤ b ∧ b ≤ a + i) (fun i l b => updL [0, 2, 3, 5, 20, 21, 22, 23, 24, 25, 26, 27, 28, 29, 30, 31, 32, 33, 34, 35, 36, 37, 38, 39] [(4, I i)] [(128000, .arr 3 (ints l) false), (63, .box (aRd bs b))]) (fun i _ _ => 3 - i) 0 [0, 0, 0] a ⟨by omega, ⟨rfl, by simp⟩, by omega, by omega⟩ ?_ (fun i l b hi => ?_)
    · repeat' (first | exact True.intro | ((conv => whnf); first | exact True.intro | refine ⟨by rfl, ?_⟩ | refine ⟨?_, ?_⟩))
    · obtain ⟨hi, hl, h1, h2⟩ := hi
      have hl1 := hl.1
      conv => whnf
      (repeat' first | ((first | refine Sq.cons ?_ | refine Dr.cons ?_ | refine Sq.nil ?_ | (refine Dr.nil ?_; refine drawIf (by kernel_rfl) ?_) | refine Vc.region rfl ?_ | refine Vc.draw rfl (by kernel_rfl) ?_ | refine Vc.cond ?_ | refine Vc.block ?_ | refine Vc.ret ?_ | refine Vc.skip ?_ | refine Vc.exit ?_ | refine mkSl (by omega) (by omega) ?_); conv => whnf) | refine Vc.seq ?_)
      refine ifB_d (fun g => ?_) (fun g => ?_)
      all_goals conv => whnf
      · repeat' first | ((first | refine Sq.cons ?_ | refine Dr.cons ?_ | refine Sq.nil ?_ | (refine Dr.nil ?_; refine drawIf (by kernel_rfl) ?_) | refine Vc.region rfl ?_ | refine Vc.draw rfl (by kernel_rfl) ?_ | refine Vc.cond ?_ | refine Vc.block ?_ | refine Vc.ret ?_ | refine Vc.skip ?_ | refine Vc.exit ?_ | refine mkSl (by omega) (by omega) ?_); conv => whnf) | refine Vc.seq ?_ | (refine ifB_i (fun _ => ?_) (fun _ => ?_) <;> conv => whnf) | (refine callIo (draw_pick bs _ _ (by omega) (by omega) hbs) ?_; rintro _ _ ⟨n, hn, rfl, rfl⟩; conv => whnf)
        refine ioN hn.1 (by simp; omega) ?_
        conv => whnf
        repeat' first | ((first | refine Sq.cons ?_ | refine Dr.cons ?_ | refine Sq.nil ?_ | (refine Dr.nil ?_; refine drawIf (by kernel_rfl) ?_) | refine Vc.region rfl ?_ | refine Vc.draw rfl (by kernel_rfl) ?_ | refine Vc.cond ?_ | refine Vc.block ?_ | refine Vc.ret ?_ | refine Vc.skip ?_ | refine Vc.exit ?_ | refine mkSl (by omega) (by omega) ?_); conv => whnf) | refine Vc.seq ?_ | (refine ifB_i (fun _ => ?_) (fun _ => ?_) <;> conv => whnf)
        refine rwL [0, 0, 0, 1, -1, 2] rfl hn.1 (by simp; omega) fun c hc => ?_
        have hc2 : -2 ≤ c ∧ c ≤ 2 := by simp at hc; omega
        conv => whnf
        repeat' first | ((first | refine Sq.cons ?_ | refine Dr.cons ?_ | refine Sq.nil ?_ | (refine Dr.nil ?_; refine drawIf (by kernel_rfl) ?_) | refine Vc.region rfl ?_ | refine Vc.draw rfl (by kernel_rfl) ?_ | refine Vc.cond ?_ | refine Vc.block ?_ | refine Vc.ret ?_ | refine Vc.skip ?_ | refine Vc.exit ?_ | refine mkSl (by omega) (by omega) ?_); conv => whnf) | refine Vc.seq ?_ | (refine ifB_i (fun _ => ?_) (fun _ => ?_) <;> conv => whnf) | (refine ioN (by omega) (by rw [ints_len]; omega) ?_; conv => whnf) | (refine rwN (enc := rI) 0 (by omega) ?_; conv => whnf) | (refine w64 (by omega) (by omega) ?_; conv => whnf)
        refine ⟨i + 1, l.set i c, b + 1, ⟨by omega, hl.set hc2, by omega, by omega⟩, by simp only; omega, ?_⟩
        repeat' (first | exact True.intro | ((conv => whnf); first | exact True.intro | refine ⟨by rfl, ?_⟩ | refine ⟨by first | omega | (show (_ : Int) = _; first | omega | (dsimp only; omega)) | exact set_ints _ _ _, ?_⟩ | refine ⟨?_, ?_⟩))
      · (repeat' first | ((first | refine Sq.cons ?_ | refine Dr.cons ?_ | refine Sq.nil ?_ | (refine Dr.nil ?_; refine drawIf (by kernel_rfl) ?_) | refine Vc.region rfl ?_ | refine Vc.draw rfl (by kernel_rfl) ?_ | refine Vc.cond ?_ | refine Vc.block ?_ | refine Vc.ret ?_ | refine Vc.skip ?_ | refine Vc.exit ?_ | refine mkSl (by omega) (by omega) ?_); conv => whnf) | refine Vc.seq ?_)
        have e : i = 3 := by omega
        subst e
        refine Vc.loop3 (fun (j : Nat) (m : List Int) (b' : Int) => j ≤ 2 ∧ coef m 2 ∧ a ≤ b' ∧ b' ≤ a + 3 + j) (fun j m b' => updL [0, 2, 3, 33, 34, 35, 36, 37, 38, 39] [(5, I j)] [(128001, .arr 3 (ints m) false), (63, .box (aRd bs b'))]) (fun j _ _ => 2 - j) 0 [0, 0] b ⟨by omega, ⟨rfl, by simp⟩, by omega, by omega⟩ ?_ (fun j m b' hj => ?_)
        · repeat' (first | exact True.intro | ((conv => whnf); first | exact True.intro | refine ⟨by rfl, ?_⟩ | refine ⟨?_, ?_⟩))
        · obtain ⟨hj, hm, k1, k2⟩ := hj
          have hm1 := hm.1
          conv => whnf
          (repeat' first | ((first | refine Sq.cons ?_ | refine Dr.cons ?_ | refine Sq.nil ?_ | (refine Dr.nil ?_; refine drawIf (by kernel_rfl) ?_) | refine Vc.region rfl ?_ | refine Vc.draw rfl (by kernel_rfl) ?_ | refine Vc.cond ?_ | refine Vc.block ?_ | refine Vc.ret ?_ | refine Vc.skip ?_ | refine Vc.exit ?_ | refine mkSl (by omega) (by omega) ?_); conv => whnf) | refine Vc.seq ?_)
          refine ifB_d (fun g => ?_) (fun g => ?_)
          all_goals conv => whnf
          · repeat' first | ((first | refine Sq.cons ?_ | refine Dr.cons ?_ | refine Sq.nil ?_ | (refine Dr.nil ?_; refine drawIf (by kernel_rfl) ?_) | refine Vc.region rfl ?_ | refine Vc.draw rfl (by kernel_rfl) ?_ | refine Vc.cond ?_ | refine Vc.block ?_ | refine Vc.ret ?_ | refine Vc.skip ?_ | refine Vc.exit ?_ | refine mkSl (by omega) (by omega) ?_); conv => whnf) | refine Vc.seq ?_ | (refine ifB_i (fun _ => ?_) (fun _ => ?_) <;> conv => whnf) | (refine callIo (draw_pick bs _ _ (by omega) (by omega) hbs) ?_; rintro _ _ ⟨n, hn, rfl, rfl⟩; conv => whnf)
            refine ioN hn.1 (by simp; omega) ?_
            conv => whnf
            repeat' first | ((first | refine Sq.cons ?_ | refine Dr.cons ?_ | refine Sq.nil ?_ | (refine Dr.nil ?_; refine drawIf (by kernel_rfl) ?_) | refine Vc.region rfl ?_ | refine Vc.draw rfl (by kernel_rfl) ?_ | refine Vc.cond ?_ | refine Vc.block ?_ | refine Vc.ret ?_ | refine Vc.skip ?_ | refine Vc.exit ?_ | refine mkSl (by omega) (by omega) ?_); conv => whnf) | refine Vc.seq ?_ | (refine ifB_i (fun _ => ?_) (fun _ => ?_) <;> conv => whnf)
            refine rwL [0, 0, 1, -1, 2] rfl hn.1 (by simp; omega) fun c hc => ?_
            have hc2 : -2 ≤ c ∧ c ≤ 2 := by simp at hc; omega
            conv => whnf
            repeat' first | ((first | refine Sq.cons ?_ | refine Dr.cons ?_ | refine Sq.nil ?_ | (refine Dr.nil ?_; refine drawIf (by kernel_rfl) ?_) | refine Vc.region rfl ?_ | refine Vc.draw rfl (by kernel_rfl) ?_ | refine Vc.cond ?_ | refine Vc.block ?_ | refine Vc.ret ?_ | refine Vc.skip ?_ | refine Vc.exit ?_ | refine mkSl (by omega) (by omega) ?_); conv => whnf) | refine Vc.seq ?_ | (refine ifB_i (fun _ => ?_) (fun _ => ?_) <;> conv => whnf) | (refine ioN (by omega) (by rw [ints_len]; omega) ?_; conv => whnf) | (refine rwN (enc := rI) 0 (by omega) ?_; conv => whnf) | (refine w64 (by omega) (by omega) ?_; conv => whnf)
            refine ⟨j + 1, m.set j c, b' + 1, ⟨by omega, hm.set hc2, by omega, by omega⟩, by simp only; omega, ?_⟩
            repeat' (first | exact True.intro | ((conv => whnf); first | exact True.intro | refine ⟨by rfl, ?_⟩ | refine ⟨by first | omega | (show (_ : Int) = _; first | omega | (dsimp only; omega)) | exact set_ints _ _ _, ?_⟩ | refine ⟨?_, ?_⟩))
          · repeat' first | ((first | refine Sq.cons ?_ | refine Dr.cons ?_ | refine Sq.nil ?_ | (refine Dr.nil ?_; refine drawIf (by kernel_rfl) ?_) | refine Vc.region rfl ?_ | refine Vc.draw rfl (by kernel_rfl) ?_ | refine Vc.cond ?_ | refine Vc.block ?_ | refine Vc.ret ?_ | refine Vc.skip ?_ | refine Vc.exit ?_ | refine mkSl (by omega) (by omega) ?_); conv => whnf) | refine Vc.seq ?_ | (refine ifB_i (fun _ => ?_) (fun _ => ?_) <;> conv => whnf) | (refine callIo (draw_pick bs _ _ (by omega) (by omega) hbs) ?_; rintro _ _ ⟨n, hn, rfl, rfl⟩; conv => whnf)
            refine ioN hn.1 (by simp; omega) ?_
            conv => whnf
            repeat' first | ((first | refine Sq.cons ?_ | refine Dr.cons ?_ | refine Sq.nil ?_ | (refine Dr.nil ?_; refine drawIf (by kernel_rfl) ?_) | refine Vc.region rfl ?_ | refine Vc.draw rfl (by kernel_rfl) ?_ | refine Vc.cond ?_ | refine Vc.block ?_ | refine Vc.ret ?_ | refine Vc.skip ?_ | refine Vc.exit ?_ | refine mkSl (by omega) (by omega) ?_); conv => whnf) | refine Vc.seq ?_ | (refine ifB_i (fun _ => ?_) (fun _ => ?_) <;> conv => whnf)
            refine rwL [0, 0, 1, -1, 5, -5, 20, -20] rfl hn.1 (by simp; omega) fun c hc => ?_
            have hc2 : -20 ≤ c ∧ c ≤ 20 := by simp at hc; omega
            conv => whnf
            repeat' first | ((first | refine Sq.cons ?_ | refine Dr.cons ?_ | refine Sq.nil ?_ | (refine Dr.nil ?_; refine drawIf (by kernel_rfl) ?_) | refine Vc.region rfl ?_ | refine Vc.draw rfl (by kernel_rfl) ?_ | refine Vc.cond ?_ | refine Vc.block ?_ | refine Vc.ret ?_ | refine Vc.skip ?_ | refine Vc.exit ?_ | refine mkSl (by omega) (by omega) ?_); conv => whnf) | refine Vc.seq ?_ | (refine ifB_i (fun _ => ?_) (fun _ => ?_) <;> conv => whnf) | (refine ioN (by omega) (by rw [ints_len]; omega) ?_; conv => whnf) | (refine rwN (enc := rI) 0 (by omega) ?_; conv => whnf) | (refine w64 (by omega) (by omega) ?_; conv => whnf)
            exact ⟨⟨l, m, c⟩, b' + 1, ⟨by omega, by omega⟩, small_of hl hm hc2, rfl, rfl⟩
  obtain ⟨r, o, ⟨f, a', h1, h2, h3, rfl⟩, h4⟩ := key
  exact ⟨_, r, ⟨f, a', h1, h2, h3, rfl⟩, h4⟩
end Cc
end
section
namespace Cc
open Go Go.AM
set_option maxRecDepth 100000
set_option maxHeartbeats 4000000
theorem spec_num (a b k : Int) : Sem P 368 [(.pure, I a), (.pure, I b), (.pure, I k)] [] (.agg (aF ⟨[0, 0, 0], [a, b], k⟩)) := by
  refine fn_okR (E := { E0 with keep := [2000] }) E0_tab E0_ord (fn := Go.Proofs.Tryz.f368) (by kernel_rfl) (by kernel_rfl) (fun hb => ?_)
  conv => whnf
  repeat' first | ((first | refine Sq.cons ?_ | refine Dr.cons ?_ | refine Sq.nil ?_ | (refine Dr.nil ?_; refine drawIf (by kernel_rfl) ?_) | refine Vc.region rfl ?_ | refine Vc.draw rfl (by kernel_rfl) ?_ | refine Vc.cond ?_ | refine Vc.block ?_ | refine Vc.ret ?_ | refine Vc.skip ?_ | refine Vc.exit ?_ | refine mkSl (by omega) (by omega) ?_); conv => whnf) | refine Vc.seq ?_ | (refine ifB_i (fun _ => ?_) (fun _ => ?_) <;> conv => whnf) | (refine ⟨_, spec_zero, ?_⟩; conv => whnf) | (refine ioK (Nat.le_of_ble_eq_true rfl) ?_; conv => whnf) | (refine rwC rfl ?_; conv => whnf)
  all_goals first
    | exact ⟨rfl, rfl⟩
    | trace_state
theorem spec_with (f : Form) (v : Nat) (n : Int) (hv : v < f.C.length) : Sem P 367 [(.own, .agg (aF f)), (.pure, I v), (.pure, I n)] [] (.agg (aF { f with C := f.C.set v n })) := by
  refine fn_okR (E := E0) E0_tab E0_ord (fn := Go.Proofs.Tryz.f367) (by kernel_rfl) (by kernel_rfl) (fun hb => ?_)
  have la := ints_len f.C
  conv => whnf
  repeat' first | ((first | refine Sq.cons ?_ | refine Dr.cons ?_ | refine Sq.nil ?_ | (refine Dr.nil ?_; refine drawIf (by kernel_rfl) ?_) | refine Vc.region rfl ?_ | refine Vc.draw rfl (by kernel_rfl) ?_ | refine Vc.cond ?_ | refine Vc.block ?_ | refine Vc.ret ?_ | refine Vc.skip ?_ | refine Vc.exit ?_ | refine mkSl (by omega) (by omega) ?_); conv => whnf) | refine Vc.seq ?_ | (refine ifB_i (fun _ => ?_) (fun _ => ?_) <;> conv => whnf) | (refine ioN (by omega) (by omega) ?_; conv => whnf) | (refine rwN (enc := rI) 0 (by omega) ?_; conv => whnf)
  exact ⟨congrArg (fun x => TV.agg [.sl 3 x, sI f.D, eI f.K]) (set_ints _ _ _), rfl⟩
theorem ok_test {f : Form} {n : Int} (hf : f.small = true) (hn : 1 ≤ n ∧ n ≤ 6) : (⟨1, 0, n, f⟩ : Line).ok = true := by
  simp [Line.ok, hf, inB_iff, hn]
theorem ok_add {f : Form} {n : Int} (hf : f.small = true) (hn : 0 ≤ n ∧ n ≤ 2) : (⟨2, n, 0, f⟩ : Line).ok = true := by
  simp [Line.ok, hf, inB_iff, hn]
theorem ok_print {f : Form} (hf : f.small = true) : (⟨3, 0, 0, f⟩ : Line).ok = true := by
  simp [Line.ok, hf]
theorem small_flat {f : Form} (hf : f.small = true) : ({ f with C := [0, 0, 0] } : Form).small = true := by
  simp only [Form.small, Bool.and_eq_true] at hf ⊢
  exact ⟨⟨by decide, hf.1.2⟩, hf.2⟩
theorem draw_line (bs : List UInt8) (a : Int) (ha : 0 ≤ a ∧ a ≤ 10000000000) (hbs : bs.length ≤ 2000) :
    ∃ os res, (∃ l a', (a ≤ a' ∧ a' ≤ a + 10) ∧ l.ok = true ∧ res = .agg (aL l) ∧ os = aRd bs a') ∧ Sem P 369 [(.io 0 0, .agg (aRd bs a))] [.agg os] res := by
  have key : ∃ res outs, (∃ l a', (a ≤ a' ∧ a' ≤ a + 10) ∧ l.ok = true ∧ res = .agg (aL l) ∧ outs = [.agg (aRd bs a')]) ∧ Sem P 369 [(.io 0 0, .agg (aRd bs a))] outs res := by
    refine fn_someR (E := { E0 with keep := [5004, 9001, 14001] }) E0_tab E0_ord (fn := Go.Proofs.Tryz.f369) (by kernel_rfl) (by kernel_rfl) ?_
    conv => whnf
    repeat' first | ((first | refine Sq.cons ?_ | refine Dr.cons ?_ | refine Sq.nil ?_ | (refine Dr.nil ?_; refine drawIf (by kernel_rfl) ?_) | refine Vc.region rfl ?_ | refine Vc.draw rfl (by kernel_rfl) ?_ | refine Vc.cond ?_ | refine Vc.block ?_ | refine Vc.ret ?_ | refine Vc.skip ?_ | refine Vc.exit ?_ | refine mkSl (by omega) (by omega) ?_); conv => whnf) | refine Vc.seq ?_ | (refine ifB_i (fun _ => ?_) (fun _ => ?_) <;> conv => whnf) | (refine callIo (draw_pick bs _ _ (by omega) (by omega) hbs) ?_; rintro _ _ ⟨n, hn, rfl, rfl⟩; conv => whnf) | (refine callIo (draw_small bs _ (by omega) hbs) ?_; rintro _ _ ⟨f, b, hb, hf, rfl, rfl⟩; conv => whnf) | (refine w64 (by first | omega | (dsimp only; omega)) (by first | omega | (dsimp only; omega)) ?_; conv => whnf)
    all_goals first
      | (refine ⟨⟨1, 0, 1 + n, f⟩, _, ⟨?_, ?_⟩, ?_, rfl, rfl⟩
         · omega
         · omega
         · exact ok_test hf (by omega))
      | (refine ⟨⟨2, n, 0, f⟩, _, ⟨?_, ?_⟩, ?_, rfl, rfl⟩
         · omega
         · omega
         · exact ok_add hf (by omega))
      | (refine ⟨⟨2, n, 0, { f with C := [0, 0, 0] }⟩, _, ⟨?_, ?_⟩, ?_, rfl, rfl⟩
         · omega
         · omega
         · exact ok_add (small_flat hf) (by omega))
      | (refine ⟨⟨3, 0, 0, f⟩, _, ⟨?_, ?_⟩, ?_, rfl, rfl⟩
         · omega
         · omega
         · exact ok_print hf)
      | (refine ⟨⟨4, 0, 0, Form.nil⟩, _, ⟨?_, ?_⟩, ?_, rfl, rfl⟩
         · omega
         · omega
         · rfl)
  obtain ⟨r, o, ⟨f, a', h1, h2, h3, rfl⟩, h4⟩ := key
  exact ⟨_, r, ⟨f, a', h1, h2, h3, rfl⟩, h4⟩
end Cc
end
section
namespace Cc
open Go Go.AM
set_option maxRecDepth 100000
set_option maxHeartbeats 4000000
end Cc
end
section
namespace Cc
open Go Go.AM
set_option maxRecDepth 100000
set_option maxHeartbeats 4000000
end Cc
end
section
namespace Cc
open Go Go.AM
set_option maxRecDepth 100000
set_option maxHeartbeats 4000000
def unI : List (List AV) → List Int
  | [.prim (.int .i64 n)] :: r => n :: unI r
  | _ => []
theorem rwI {rows : List (List AV)} {n : Int} {k : List AV → Prop} (hr : ints (unI rows) = rows) (h0 : 0 ≤ n) (h : n < rows.length) (hk : ∀ c ∈ unI rows, k (rI c)) : ∃ row, rows[n.toNat]? = some row ∧ k row := by
  rw [← hr] at h ⊢
  rw [ints_len] at h
  exact ⟨rI ((unI rows)[n.toNat]'(by omega)), by rw [List.getElem?_map, List.getElem?_eq_getElem (by omega)]; rfl, hk _ (List.getElem_mem _)⟩
theorem slN {l h n : Int} {k : Prop} (h0 : 0 ≤ l) (h1 : l ≤ h) (h2 : h ≤ n) (hk : k) : 0 ≤ l ∧ l ≤ h ∧ h ≤ n ∧ k := ⟨h0, h1, h2, hk⟩
theorem ctN {k : Prop} (hk : k) : (0 : Int) = 0 ∧ k := ⟨rfl, hk⟩
theorem small_len {f : Form} (h : f.small = true) : f.C.length = 3 ∧ f.D.length = 2 := (small_form h).1.1
theorem ints_take (l : List Int) (n : Nat) : (ints l).take n = ints (l.take n) := List.map_take.symm
theorem rwE {rows : List (List AV)} {l : List Int} {i : Nat} {k : List AV → Prop} (hr : rows = ints l) (h : i < l.length) (hk : k (rI (l.getD i 0))) : ∃ row, rows[i]? = some row ∧ k row := by
  subst hr; exact rwN (enc := rI) 0 h hk
theorem drForm {a m : Int} {bs : List UInt8} {res : TV} {os : List TV} {C D : List Int} {K a' : Int} (e : res = .agg [sI C, sI D, eI K]) (e2 : os = [.agg (aRd bs a')]) (hb : a ≤ a' ∧ a' ≤ a + m) : ∃ (f : Form) (a' : Int), (a ≤ a' ∧ a' ≤ a + m) ∧ res = .agg (aF f) ∧ os = [.agg (aRd bs a')] :=
  ⟨⟨C, D, K⟩, a', hb, e, e2⟩
theorem draw_form (bs : List UInt8) (a k : Int) (ha : 0 ≤ a ∧ a ≤ 10000000000) (hk : 1 ≤ k ∧ k ≤ 1000000) (hbs : bs.length ≤ 2000) :
    ∃ os res, (∃ (f : Form) (a' : Int), (a ≤ a' ∧ a' ≤ a + 20) ∧ res = .agg (aF f) ∧ os = aRd bs a') ∧ Sem P 335 [(.io 0 0, .agg (aRd bs a)), (.pure, I k)] [.agg os] res := by
  have key : ∃ res outs, (∃ (f : Form) (a' : Int), (a ≤ a' ∧ a' ≤ a + 20) ∧ res = .agg (aF f) ∧ outs = [.agg (aRd bs a')]) ∧ Sem P 335 [(.io 0 0, .agg (aRd bs a)), (.pure, I k)] outs res := by
    refine fn_someR (E := { E0 with keep := [2001], cut := [10002] }) E0_tab E0_ord (fn := Go.Proofs.Tryz.f335) (by kernel_rfl) (by kernel_rfl) ?_
    conv => whnf
    repeat' first | ((first | refine Sq.cons ?_ | refine Dr.cons ?_ | refine Sq.nil ?_ | (refine Dr.nil ?_; refine drawIf (by kernel_rfl) ?_) | refine Vc.region rfl ?_ | refine Vc.draw rfl (by kernel_rfl) ?_ | refine Vc.cond ?_ | refine Vc.block ?_ | refine Vc.ret ?_ | refine Vc.skip ?_ | refine Vc.exit ?_ | refine mkSl (by omega) (by omega) ?_); conv => whnf) | refine Vc.seq ?_ | (refine ifB_i (fun _ => ?_) (fun _ => ?_) <;> conv => whnf) | (refine callIo (draw_pick bs _ _ (by omega) (by omega) hbs) ?_; rintro _ _ ⟨n, hn, rfl, rfl⟩; conv => whnf) | (refine ioN (by first | omega | (dsimp only; omega) | (simp <;> omega) | (simp_all <;> omega)) (by first | omega | (dsimp only; omega) | (simp <;> omega) | (simp_all <;> omega)) ?_; conv => whnf) | (refine rwI rfl (by first | omega | (dsimp only; omega) | (simp <;> omega) | (simp_all <;> omega)) (by first | omega | (dsimp only; omega) | (simp <;> omega) | (simp_all <;> omega)) fun c hc => ?_; conv => whnf) | (refine rwN (enc := rI) 0 (by first | omega | (dsimp only; omega) | (simp <;> omega) | (simp_all <;> omega)) ?_; conv => whnf) | (refine w64 (by first | omega | (dsimp only; omega)) (by first | omega | (dsimp only; omega)) ?_; conv => whnf) | (refine apN (by simp; omega) ?_; conv => whnf) | (refine callIo (draw_small bs _ (by omega) hbs) ?_; rintro _ _ ⟨f, b, hb, hf, rfl, rfl⟩; have hl := small_len hf; have hl1 := hl.1; have hl2 := hl.2; conv => whnf) | (refine rwE (set_ints _ _ _) (by first | omega | (dsimp only; omega) | (simp <;> omega) | (simp_all <;> omega)) ?_; conv => whnf) | (refine slN (by decide) (by decide) (by first | omega | (dsimp only; omega) | (simp <;> omega) | (simp_all <;> omega)) ?_; conv => whnf) | (refine ctN ?_; conv => whnf)
    all_goals
      apply drForm
      · (try simp only [set_ints, app_ints, ints_take]); rfl
      · rfl
      · constructor <;> omega
  obtain ⟨r, o, ⟨f, a', h1, h2, rfl⟩, h4⟩ := key
  exact ⟨_, r, ⟨f, a', h1, h2, rfl⟩, h4⟩
end Cc
end
section
namespace Cc
open Go Go.AM
set_option maxRecDepth 100000
set_option maxHeartbeats 4000000
theorem apS {r : List (List AV)} {k : Prop} (h : allSh r) (hk : k) : allSh r ∧ k := ⟨h, hk⟩
theorem sh_lines (l : List Line) : allSh (l.map eL) := by
  intro row hr a ha
  obtain ⟨x, _, rfl⟩ := List.mem_map.1 hr
  simp only [eL, List.mem_cons, List.not_mem_nil, or_false] at ha
  rcases ha with rfl | rfl | rfl | rfl | rfl | rfl <;> first | exact .inl ⟨_, rfl⟩ | exact .inr ⟨_, _, rfl⟩
theorem app_lines (l : List Line) (x : Line) : l.map eL ++ [eL x] = (l ++ [x]).map eL := by simp
theorem spec_actOkA (out : List Line) (l : Line) : Sem P 181 [(.pure, .one (.sl 133 ([] ++ out.map eL ++ [eL l])))] [] (B (actOk (out ++ [l]))) := by
  have e : [] ++ out.map eL ++ [eL l] = (out ++ [l]).map eL := by simp
  rw [e]; exact spec_actOk _
theorem draw_act (bs : List UInt8) (a : Int) (ha : 0 ≤ a ∧ a ≤ 9000000000) (hbs : bs.length ≤ 2000) :
    ∃ os res, (∃ (act : List Line) (a' : Int), (a ≤ a' ∧ a' ≤ a + 60) ∧ actOk act = true ∧ res = .one (sLs act) ∧ os = aRd bs a') ∧ Sem P 334 [(.io 0 0, .agg (aRd bs a))] [.agg os] res := by
  have key : ∃ res outs, (∃ (act : List Line) (a' : Int), (a ≤ a' ∧ a' ≤ a + 60) ∧ actOk act = true ∧ res = .one (sLs act) ∧ outs = [.agg (aRd bs a')]) ∧ Sem P 334 [(.io 0 0, .agg (aRd bs a))] outs res := by
    refine fn_someR (E := { E0 with keep := [6000, 10000, 12000, 14000, 14001, 20002] }) E0_tab E0_ord (fn := Go.Proofs.Tryz.f334) (by kernel_rfl) (by kernel_rfl) ?_
    conv => whnf
    repeat' first | ((first | refine Sq.cons ?_ | refine Dr.cons ?_ | refine Sq.nil ?_ | (refine Dr.nil ?_; refine drawIf (by kernel_rfl) ?_) | refine Vc.region rfl ?_ | refine Vc.draw rfl (by kernel_rfl) ?_ | refine Vc.cond ?_ | refine Vc.block ?_ | refine Vc.ret ?_ | refine Vc.skip ?_ | refine Vc.exit ?_ | refine mkSl (by omega) (by omega) ?_); conv => whnf) | refine Vc.seq ?_ | (refine ifB_i (fun _ => ?_) (fun _ => ?_) <;> conv => whnf)
    refine callIo (draw_pick bs _ _ (by omega) (by omega) hbs) ?_
    rintro _ _ ⟨v, hv, rfl, rfl⟩
    have hv2 : v = 0 ∨ v = 1 := by omega
    rcases hv2 with rfl | rfl
    all_goals conv => whnf
    all_goals repeat' first | ((first | refine Sq.cons ?_ | refine Dr.cons ?_ | refine Sq.nil ?_ | (refine Dr.nil ?_; refine drawIf (by kernel_rfl) ?_) | refine Vc.region rfl ?_ | refine Vc.draw rfl (by kernel_rfl) ?_ | refine Vc.cond ?_ | refine Vc.block ?_ | refine Vc.ret ?_ | refine Vc.skip ?_ | refine Vc.exit ?_ | refine mkSl (by omega) (by omega) ?_); conv => whnf) | refine Vc.seq ?_ | (refine ifB_i (fun _ => ?_) (fun _ => ?_) <;> conv => whnf) | (refine callIo (draw_pick bs _ _ (by omega) (by omega) hbs) ?_; rintro _ _ ⟨n, hn, rfl, rfl⟩; conv => whnf) | (refine ⟨_, spec_num _ _ _, ?_⟩; conv => whnf) | (refine ⟨_, spec_with _ 0 _ (by decide), ?_⟩; conv => whnf) | (refine ⟨_, spec_with _ 1 _ (by decide), ?_⟩; conv => whnf) | (refine ⟨_, spec_with _ 2 _ (by decide), ?_⟩; conv => whnf) | (refine w64 (by first | omega | (dsimp only; omega)) (by first | omega | (dsimp only; omega)) ?_; conv => whnf)
    all_goals first
      | exact ⟨[⟨_, _, _, ⟨_, _, _⟩⟩], _, ⟨by omega, by omega⟩, by decide, rfl, rfl⟩
      | exact ⟨[⟨_, _, _, ⟨_, _, _⟩⟩, ⟨_, _, _, ⟨_, _, _⟩⟩], _, ⟨by omega, by omega⟩, by decide, rfl, rfl⟩
      | exact ⟨[⟨_, _, _, ⟨_, _, _⟩⟩, ⟨_, _, _, ⟨_, _, _⟩⟩, ⟨_, _, _, ⟨_, _, _⟩⟩], _, ⟨by omega, by omega⟩, by decide, rfl, rfl⟩
      | exact ⟨[⟨_, _, _, ⟨_, _, _⟩⟩, ⟨_, _, _, ⟨_, _, _⟩⟩, ⟨_, _, _, ⟨_, _, _⟩⟩, ⟨_, _, _, ⟨_, _, _⟩⟩, ⟨_, _, _, Form.nil⟩], _, ⟨by omega, by omega⟩, by decide, rfl, rfl⟩
      | skip
    all_goals
      refine Vc.loop3 (fun (i : Int) (out : List Line) (b : Int) => 0 ≤ i ∧ i ≤ 5 ∧ (out.length : Int) ≤ 5 - i ∧ actOk out = true ∧ a ≤ b ∧ b ≤ a + 3 + (5 - i) * 10) (fun i out b => updL [0, 2, 83] [(5, I i), (4, .one (.ref 960000))] [(960000, .arr 133 (out.map eL) false), (63, .box (aRd bs b))]) (fun i _ _ => i.toNat) (1 + n) [] (a + 1 + 1 + 1) ⟨by omega, by omega, by simp; omega, rfl, by omega, by omega⟩ ?_ (fun i out b hi => ?_)
      · repeat' (first | exact True.intro | ((conv => whnf); first | exact True.intro | refine ⟨by rfl, ?_⟩ | refine ⟨by first | omega | (show (_ : Int) = _; first | omega | (dsimp only; omega)), ?_⟩ | refine ⟨?_, ?_⟩))
      · obtain ⟨i0, i5, ho, hok, b1, b2⟩ := hi
        have lo : (out.map eL).length = out.length := List.length_map ..
        conv => whnf
        (repeat' first | ((first | refine Sq.cons ?_ | refine Dr.cons ?_ | refine Sq.nil ?_ | (refine Dr.nil ?_; refine drawIf (by kernel_rfl) ?_) | refine Vc.region rfl ?_ | refine Vc.draw rfl (by kernel_rfl) ?_ | refine Vc.cond ?_ | refine Vc.block ?_ | refine Vc.ret ?_ | refine Vc.skip ?_ | refine Vc.exit ?_ | refine mkSl (by omega) (by omega) ?_); conv => whnf) | refine Vc.seq ?_)
        refine ifB_d (fun g => ?_) (fun g => ?_)
        all_goals conv => whnf
        · repeat' first | ((first | refine Sq.cons ?_ | refine Dr.cons ?_ | refine Sq.nil ?_ | (refine Dr.nil ?_; refine drawIf (by kernel_rfl) ?_) | refine Vc.region rfl ?_ | refine Vc.draw rfl (by kernel_rfl) ?_ | refine Vc.cond ?_ | refine Vc.block ?_ | refine Vc.ret ?_ | refine Vc.skip ?_ | refine Vc.exit ?_ | refine mkSl (by omega) (by omega) ?_); conv => whnf) | refine Vc.seq ?_ | (refine ifB_i (fun _ => ?_) (fun _ => ?_) <;> conv => whnf) | (refine callIo (draw_line bs _ (by omega) hbs) ?_; rintro _ _ ⟨l, b', hb', hl, rfl, rfl⟩; conv => whnf) | (refine apN (by simp; omega) ?_; conv => whnf) | (refine apS (sh_lines _) ?_; conv => whnf) | (refine ⟨_, spec_actOkA _ _, ?_⟩; conv => whnf) | (refine w64 (by first | omega | (dsimp only; omega)) (by first | omega | (dsimp only; omega)) ?_; conv => whnf)
          · rename_i h
            refine ⟨i - 1, out ++ [l], b', ⟨by omega, by omega, by simp; omega, h, by omega, by omega⟩, by simp only; omega, ?_⟩
            repeat' (first | exact True.intro | ((conv => whnf); first | exact True.intro | refine ⟨by rfl, ?_⟩ | refine ⟨by first | omega | (show (_ : Int) = _; first | omega | (dsimp only; omega)) | exact app_lines _ _, ?_⟩ | refine ⟨?_, ?_⟩))
          · refine ⟨i - 1, out, b', ⟨by omega, by omega, by omega, hok, by omega, by omega⟩, by simp only; omega, ?_⟩
            repeat' (first | exact True.intro | ((conv => whnf); first | exact True.intro | refine ⟨by rfl, ?_⟩ | refine ⟨by first | omega | (show (_ : Int) = _; first | omega | (dsimp only; omega)), ?_⟩ | refine ⟨?_, ?_⟩))
        · repeat' first | ((first | refine Sq.cons ?_ | refine Dr.cons ?_ | refine Sq.nil ?_ | (refine Dr.nil ?_; refine drawIf (by kernel_rfl) ?_) | refine Vc.region rfl ?_ | refine Vc.draw rfl (by kernel_rfl) ?_ | refine Vc.cond ?_ | refine Vc.block ?_ | refine Vc.ret ?_ | refine Vc.skip ?_ | refine Vc.exit ?_ | refine mkSl (by omega) (by omega) ?_); conv => whnf) | refine Vc.seq ?_ | (refine ifB_i (fun _ => ?_) (fun _ => ?_) <;> conv => whnf)
          exact ⟨out, b, ⟨by omega, by omega⟩, hok, rfl, rfl⟩
  obtain ⟨r, o, ⟨f, a', h1, h2, h3, rfl⟩, h4⟩ := key
  exact ⟨_, r, ⟨f, a', h1, h2, h3, rfl⟩, h4⟩
end Cc
end
section
namespace Cc
open Go Go.AM
set_option maxRecDepth 100000
set_option maxHeartbeats 4000000
theorem actOk_len {act : List Line} (h : actOk act = true) : act.length ≤ 6 := (actOk_iff.1 h).2.1
theorem app_acts (l : List (List Line)) (x : List Line) : l.map eA ++ [eA x] = (l ++ [x]).map eA := by simp
theorem catOk_iff {l : List (List Line)} : catOk l = true ↔ (1 ≤ l.length ∧ l.length ≤ 4) ∧ ∀ x ∈ l, actOk x = true := by
  simp [catOk, inB_iff]; omega
theorem draw_acts (bs : List UInt8) (a : Int) (ha : 0 ≤ a ∧ a ≤ 8000000000) (hbs : bs.length ≤ 2000) :
    ∃ os res, (∃ (acts : List (List Line)) (a' : Int), (a ≤ a' ∧ a' ≤ a + 250) ∧ catOk acts = true ∧ res = .one (sAs acts) ∧ os = aRd bs a') ∧ Sem P 276 [(.io 0 0, .agg (aRd bs a))] [.agg os] res := by
  have key : ∃ res outs, (∃ (acts : List (List Line)) (a' : Int), (a ≤ a' ∧ a' ≤ a + 250) ∧ catOk acts = true ∧ res = .one (sAs acts) ∧ outs = [.agg (aRd bs a')]) ∧ Sem P 276 [(.io 0 0, .agg (aRd bs a))] outs res := by
    refine fn_someR (E := E0) E0_tab E0_ord (fn := Go.Proofs.Tryz.f276) (by kernel_rfl) (by kernel_rfl) ?_
    conv => whnf
    repeat' first | ((first | refine Sq.cons ?_ | refine Dr.cons ?_ | refine Sq.nil ?_ | (refine Dr.nil ?_; refine drawIf (by kernel_rfl) ?_) | refine Vc.region rfl ?_ | refine Vc.draw rfl (by kernel_rfl) ?_ | refine Vc.cond ?_ | refine Vc.block ?_ | refine Vc.ret ?_ | refine Vc.skip ?_ | refine Vc.exit ?_ | refine mkSl (by omega) (by omega) ?_); conv => whnf) | refine Vc.seq ?_ | (refine ifB_i (fun _ => ?_) (fun _ => ?_) <;> conv => whnf) | (refine callIo (draw_pick bs _ _ (by omega) (by omega) hbs) ?_; rintro _ _ ⟨n, hn, rfl, rfl⟩; conv => whnf) | (refine ioN (by first | omega | (dsimp only; omega) | (simp <;> omega) | (simp_all <;> omega)) (by first | omega | (dsimp only; omega) | (simp <;> omega) | (simp_all <;> omega)) ?_; conv => whnf) | (refine rwI rfl (by first | omega | (dsimp only; omega) | (simp <;> omega) | (simp_all <;> omega)) (by first | omega | (dsimp only; omega) | (simp <;> omega) | (simp_all <;> omega)) fun c hc => ?_; conv => whnf) | (refine rwN (enc := rI) 0 (by first | omega | (dsimp only; omega) | (simp <;> omega) | (simp_all <;> omega)) ?_; conv => whnf) | (refine w64 (by first | omega | (dsimp only; omega)) (by first | omega | (dsimp only; omega)) ?_; conv => whnf) | (refine apN (by simp; omega) ?_; conv => whnf)
    refine Vc.loop3 (fun (i : Int) (out : List (List Line)) (b : Int) => 0 ≤ i ∧ (out.length : Int) = 1 + n - i ∧ (∀ x ∈ out, actOk x = true) ∧ a ≤ b ∧ b ≤ a + 1 + (1 + n - i) * 60) (fun i out b => updL [0, 2, 18] [(4, I i), (3, .one (.ref 128000))] [(128000, .arr 40 (out.map eA) false), (63, .box (aRd bs b))]) (fun i _ _ => i.toNat) (1 + n) [] (a + 1) ⟨by omega, by simp, by simp, by omega, by omega⟩ ?_ (fun i out b hi => ?_)
    · repeat' (first | exact True.intro | ((conv => whnf); first | exact True.intro | refine ⟨by rfl, ?_⟩ | refine ⟨by first | omega | (show (_ : Int) = _; first | omega | (dsimp only; omega)), ?_⟩ | refine ⟨?_, ?_⟩))
    · obtain ⟨i0, ho, hok, b1, b2⟩ := hi
      have lo : (out.map eA).length = out.length := List.length_map ..
      conv => whnf
      (repeat' first | ((first | refine Sq.cons ?_ | refine Dr.cons ?_ | refine Sq.nil ?_ | (refine Dr.nil ?_; refine drawIf (by kernel_rfl) ?_) | refine Vc.region rfl ?_ | refine Vc.draw rfl (by kernel_rfl) ?_ | refine Vc.cond ?_ | refine Vc.block ?_ | refine Vc.ret ?_ | refine Vc.skip ?_ | refine Vc.exit ?_ | refine mkSl (by omega) (by omega) ?_); conv => whnf) | refine Vc.seq ?_)
      refine ifB_d (fun g => ?_) (fun g => ?_)
      all_goals conv => whnf
      · repeat' first | ((first | refine Sq.cons ?_ | refine Dr.cons ?_ | refine Sq.nil ?_ | (refine Dr.nil ?_; refine drawIf (by kernel_rfl) ?_) | refine Vc.region rfl ?_ | refine Vc.draw rfl (by kernel_rfl) ?_ | refine Vc.cond ?_ | refine Vc.block ?_ | refine Vc.ret ?_ | refine Vc.skip ?_ | refine Vc.exit ?_ | refine mkSl (by omega) (by omega) ?_); conv => whnf) | refine Vc.seq ?_ | (refine ifB_i (fun _ => ?_) (fun _ => ?_) <;> conv => whnf) | (refine callIo (draw_act bs _ (by omega) hbs) ?_; rintro _ _ ⟨l, b', hb', hl, rfl, rfl⟩; conv => whnf) | (refine apN (by simp; omega) ?_; conv => whnf) | (refine w64 (by first | omega | (dsimp only; omega)) (by first | omega | (dsimp only; omega)) ?_; conv => whnf)
        refine ⟨i - 1, out ++ [l], b', ⟨by omega, by simp; omega, fun x hx => ?_, by omega, by omega⟩, by simp only; omega, ?_⟩
        · rcases List.mem_append.1 hx with h | h
          · exact hok x h
          · rw [List.mem_singleton.1 h]; exact hl
        · repeat' (first | exact True.intro | ((conv => whnf); first | exact True.intro | refine ⟨by rfl, ?_⟩ | refine ⟨by first | omega | (show (_ : Int) = _; first | omega | (dsimp only; omega)) | exact app_acts _ _, ?_⟩ | refine ⟨?_, ?_⟩))
      · repeat' first | ((first | refine Sq.cons ?_ | refine Dr.cons ?_ | refine Sq.nil ?_ | (refine Dr.nil ?_; refine drawIf (by kernel_rfl) ?_) | refine Vc.region rfl ?_ | refine Vc.draw rfl (by kernel_rfl) ?_ | refine Vc.cond ?_ | refine Vc.block ?_ | refine Vc.ret ?_ | refine Vc.skip ?_ | refine Vc.exit ?_ | refine mkSl (by omega) (by omega) ?_); conv => whnf) | refine Vc.seq ?_ | (refine ifB_i (fun _ => ?_) (fun _ => ?_) <;> conv => whnf)
        exact ⟨out, b, ⟨by omega, by omega⟩, catOk_iff.2 ⟨⟨by omega, by omega⟩, hok⟩, rfl, rfl⟩
  obtain ⟨r, o, ⟨f, a', h1, h2, h3, rfl⟩, h4⟩ := key
  exact ⟨_, r, ⟨f, a', h1, h2, h3, rfl⟩, h4⟩
theorem set_lines (l : List Line) (i : Nat) (x : Line) : (l.map eL).set i (eL x) = (l.set i x).map eL := List.map_set.symm
theorem set_line (l : List Line) (i : Nat) (k p s : Int) (f : Form) : (l.map eL).set i [eI k, eI p, eI s, fI f.C, fI f.D, eI f.K] = (l.set i ⟨k, p, s, f⟩).map eL := set_lines l i ⟨k, p, s, f⟩
theorem app_line2 (l : List Line) (k p s : Int) (f : Form) (k' p' s' : Int) (f' : Form) : l.map eL ++ [[eI k, eI p, eI s, fI f.C, fI f.D, eI f.K], [eI k', eI p', eI s', fI f'.C, fI f'.D, eI f'.K]] = (l ++ [(⟨k, p, s, f⟩ : Line), ⟨k', p', s', f'⟩]).map eL := by simp
theorem draw_anyAct (bs : List UInt8) (a k : Int) (ha : 0 ≤ a ∧ a ≤ 8000000000) (hk : 1 ≤ k ∧ k ≤ 1000000) (hbs : bs.length ≤ 2000) :
    ∃ os res, (∃ (act : List Line) (a' : Int), (a ≤ a' ∧ a' ≤ a + 120) ∧ act.length ≤ 10 ∧ res = .one (sLs act) ∧ os = aRd bs a') ∧ Sem P 277 [(.io 0 0, .agg (aRd bs a)), (.pure, I k)] [.agg os] res := by
  have key : ∃ res outs, (∃ (act : List Line) (a' : Int), (a ≤ a' ∧ a' ≤ a + 120) ∧ act.length ≤ 10 ∧ res = .one (sLs act) ∧ outs = [.agg (aRd bs a')]) ∧ Sem P 277 [(.io 0 0, .agg (aRd bs a)), (.pure, I k)] outs res := by
    refine fn_someR (E := { E0 with keep := [2001] }) E0_tab E0_ord (fn := Go.Proofs.Tryz.f277) (by kernel_rfl) (by kernel_rfl) ?_
    conv => whnf
    repeat' first | ((first | refine Sq.cons ?_ | refine Dr.cons ?_ | refine Sq.nil ?_ | (refine Dr.nil ?_; refine drawIf (by kernel_rfl) ?_) | refine Vc.region rfl ?_ | refine Vc.draw rfl (by kernel_rfl) ?_ | refine Vc.cond ?_ | refine Vc.block ?_ | refine Vc.ret ?_ | refine Vc.skip ?_ | refine Vc.exit ?_ | refine mkSl (by omega) (by omega) ?_); conv => whnf) | refine Vc.seq ?_ | (refine ifB_i (fun _ => ?_) (fun _ => ?_) <;> conv => whnf) | (refine callIo (draw_act bs _ (by omega) hbs) ?_; rintro _ _ ⟨l, b', hb', hl, rfl, rfl⟩; have hll := actOk_len hl; have lo : (l.map eL).length = l.length := List.length_map ..; conv => whnf) | (refine callIo (draw_pick bs _ _ (by omega) (by omega) hbs) ?_; rintro _ _ ⟨n, hn, rfl, rfl⟩; conv => whnf) | (refine ioN (by first | omega | (dsimp only; omega) | (simp <;> omega) | (simp_all <;> omega)) (by first | omega | (dsimp only; omega) | (simp <;> omega) | (simp_all <;> omega)) ?_; conv => whnf) | (refine rwI rfl (by first | omega | (dsimp only; omega) | (simp <;> omega) | (simp_all <;> omega)) (by first | omega | (dsimp only; omega) | (simp <;> omega) | (simp_all <;> omega)) fun c hc => ?_; conv => whnf) | (refine rwN (enc := rI) 0 (by first | omega | (dsimp only; omega) | (simp <;> omega) | (simp_all <;> omega)) ?_; conv => whnf) | (refine w64 (by first | omega | (dsimp only; omega)) (by first | omega | (dsimp only; omega)) ?_; conv => whnf) | (refine apN (by simp; omega) ?_; conv => whnf)
    · exact ⟨l, b', ⟨by omega, by omega⟩, by omega, rfl, rfl⟩
    · exact ⟨l, b' + 1, ⟨by omega, by omega⟩, by omega, rfl, rfl⟩
    · rename_i h0 _
      have h0 : 1 ≤ l.length := by rw [beq_eq_false_iff_ne] at h0; omega
      repeat' first | ((first | refine Sq.cons ?_ | refine Dr.cons ?_ | refine Sq.nil ?_ | (refine Dr.nil ?_; refine drawIf (by kernel_rfl) ?_) | refine Vc.region rfl ?_ | refine Vc.draw rfl (by kernel_rfl) ?_ | refine Vc.cond ?_ | refine Vc.block ?_ | refine Vc.ret ?_ | refine Vc.skip ?_ | refine Vc.exit ?_ | refine mkSl (by omega) (by omega) ?_); conv => whnf) | refine Vc.seq ?_ | (refine ifB_i (fun _ => ?_) (fun _ => ?_) <;> conv => whnf) | (refine callIo (draw_pick bs _ ((l.map eL).length : Int) (by omega) (by omega) hbs) ?_; rintro _ _ ⟨n, hn, rfl, rfl⟩; conv => whnf)
      repeat' first | ((first | refine Sq.cons ?_ | refine Dr.cons ?_ | refine Sq.nil ?_ | (refine Dr.nil ?_; refine drawIf (by kernel_rfl) ?_) | refine Vc.region rfl ?_ | refine Vc.draw rfl (by kernel_rfl) ?_ | refine Vc.cond ?_ | refine Vc.block ?_ | refine Vc.ret ?_ | refine Vc.skip ?_ | refine Vc.exit ?_ | refine mkSl (by omega) (by omega) ?_); conv => whnf) | refine Vc.seq ?_ | (refine ifB_i (fun _ => ?_) (fun _ => ?_) <;> conv => whnf) | (refine callIo (draw_pick bs _ _ (by omega) (by omega) hbs) ?_; rintro _ _ ⟨n, hn, rfl, rfl⟩; conv => whnf) | (refine ioN (by first | omega | (dsimp only; omega) | (simp <;> omega) | (simp_all <;> omega)) (by first | omega | (dsimp only; omega) | (simp <;> omega) | (simp_all <;> omega)) ?_; conv => whnf) | (refine rwI rfl (by first | omega | (dsimp only; omega) | (simp <;> omega) | (simp_all <;> omega)) (by first | omega | (dsimp only; omega) | (simp <;> omega) | (simp_all <;> omega)) fun c hc => ?_; conv => whnf) | (refine rwN (enc := rI) 0 (by first | omega | (dsimp only; omega) | (simp <;> omega) | (simp_all <;> omega)) ?_; conv => whnf) | (refine w64 (by first | omega | (dsimp only; omega)) (by first | omega | (dsimp only; omega)) ?_; conv => whnf) | (refine apN (by simp; omega) ?_; conv => whnf) | (refine rwN (enc := eL) default (by first | omega | (dsimp only; omega) | (simp <;> omega) | (simp_all <;> omega)) ?_; conv => whnf) | (refine callIo (draw_form bs _ _ (by omega) (by omega) hbs) ?_; rintro _ _ ⟨f, b'', hb'', rfl, rfl⟩; conv => whnf) | (refine callIo (draw_small bs _ (by omega) hbs) ?_; rintro _ _ ⟨f, b'', hb'', hf, rfl, rfl⟩; conv => whnf)
      all_goals first
        | exact ⟨_, _, ⟨by omega, by omega⟩, Nat.le_trans (Nat.le_of_eq List.length_set) (by omega), congrArg (fun x => TV.one (.sl 133 x)) (set_line l _ _ _ _ _), rfl⟩
        | exact ⟨_, _, ⟨by omega, by omega⟩, by simp; omega, congrArg (fun x => TV.one (.sl 133 x)) (app_line2 l _ _ _ _ _ _ _ _), rfl⟩
        | skip
      rename_i m hm _ _ _ _ _
      refine Vc.loop1 (fun (out : List Line) => l.length ≤ out.length ∧ out.length ≤ 7) (fun out => updL [0, 4, 6, 25, 26, 27, 28, 29, 30, 31, 32, 33, 87] [(5, .one (.ref 128064))] [(128064, .arr 133 (out.map eL) false)]) (fun out => 7 - out.length) l ⟨by omega, by omega⟩ ?_ (fun out hi => ?_)
      · repeat' (first | exact True.intro | ((conv => whnf); first | exact True.intro | refine ⟨by rfl, ?_⟩ | refine ⟨by first | omega | (show (_ : Int) = _; first | omega | (dsimp only; omega)), ?_⟩ | refine ⟨?_, ?_⟩))
      · have lo' : (out.map eL).length = out.length := List.length_map ..
        obtain ⟨h1, h2⟩ := hi
        conv => whnf
        (repeat' first | ((first | refine Sq.cons ?_ | refine Dr.cons ?_ | refine Sq.nil ?_ | (refine Dr.nil ?_; refine drawIf (by kernel_rfl) ?_) | refine Vc.region rfl ?_ | refine Vc.draw rfl (by kernel_rfl) ?_ | refine Vc.cond ?_ | refine Vc.block ?_ | refine Vc.ret ?_ | refine Vc.skip ?_ | refine Vc.exit ?_ | refine mkSl (by omega) (by omega) ?_); conv => whnf) | refine Vc.seq ?_)
        refine ifB_d (fun g => ?_) (fun g => ?_)
        all_goals conv => whnf
        · repeat' first | ((first | refine Sq.cons ?_ | refine Dr.cons ?_ | refine Sq.nil ?_ | (refine Dr.nil ?_; refine drawIf (by kernel_rfl) ?_) | refine Vc.region rfl ?_ | refine Vc.draw rfl (by kernel_rfl) ?_ | refine Vc.cond ?_ | refine Vc.block ?_ | refine Vc.ret ?_ | refine Vc.skip ?_ | refine Vc.exit ?_ | refine mkSl (by omega) (by omega) ?_); conv => whnf) | refine Vc.seq ?_ | (refine ifB_i (fun _ => ?_) (fun _ => ?_) <;> conv => whnf) | (refine ioN (by first | omega | (dsimp only; omega) | (simp <;> omega) | (simp_all <;> omega)) (by first | omega | (dsimp only; omega) | (simp <;> omega) | (simp_all <;> omega)) ?_; conv => whnf) | (refine rwN (enc := eL) default (by first | omega | (dsimp only; omega) | (simp <;> omega) | (simp_all <;> omega)) ?_; conv => whnf) | (refine apN (by simp; omega) ?_; conv => whnf)
          refine ⟨out ++ [out.getD m.toNat default], ⟨by simp; omega, by simp; omega⟩, by simp; omega, ?_⟩
          repeat' (first | exact True.intro | ((conv => whnf); first | exact True.intro | refine ⟨by rfl, ?_⟩ | refine ⟨by first | omega | (show (_ : Int) = _; first | omega | (dsimp only; omega)) | exact app_lines _ _, ?_⟩ | refine ⟨?_, ?_⟩))
        · repeat' first | ((first | refine Sq.cons ?_ | refine Dr.cons ?_ | refine Sq.nil ?_ | (refine Dr.nil ?_; refine drawIf (by kernel_rfl) ?_) | refine Vc.region rfl ?_ | refine Vc.draw rfl (by kernel_rfl) ?_ | refine Vc.cond ?_ | refine Vc.block ?_ | refine Vc.ret ?_ | refine Vc.skip ?_ | refine Vc.exit ?_ | refine mkSl (by omega) (by omega) ?_); conv => whnf) | refine Vc.seq ?_ | (refine ifB_i (fun _ => ?_) (fun _ => ?_) <;> conv => whnf)
          exact ⟨out, _, ⟨by omega, by omega⟩, by omega, rfl, rfl⟩
  obtain ⟨r, o, ⟨f, a', h1, h2, h3, rfl⟩, h4⟩ := key
  exact ⟨_, r, ⟨f, a', h1, h2, h3, rfl⟩, h4⟩
end Cc
end
section
namespace Cc
open Go Go.AM
set_option maxRecDepth 100000
set_option maxHeartbeats 4000000
theorem set_act (l : List (List Line)) (i : Nat) (x : List Line) : (l.map eA).set i [fLs x] = (l.set i x).map eA := List.map_set.symm
theorem draw_anyActs (bs : List UInt8) (a k : Int) (ha : 0 ≤ a ∧ a ≤ 7000000000) (hk : 1 ≤ k ∧ k ≤ 1000000) (hbs : bs.length ≤ 2000) :
    ∃ os res, (∃ (acts : List (List Line)) (a' : Int), (a ≤ a' ∧ a' ≤ a + 400) ∧ acts.length ≤ 10 ∧ res = .one (sAs acts) ∧ os = aRd bs a') ∧ Sem P 170 [(.io 0 0, .agg (aRd bs a)), (.pure, I k)] [.agg os] res := by
  have key : ∃ res outs, (∃ (acts : List (List Line)) (a' : Int), (a ≤ a' ∧ a' ≤ a + 400) ∧ acts.length ≤ 10 ∧ res = .one (sAs acts) ∧ outs = [.agg (aRd bs a')]) ∧ Sem P 170 [(.io 0 0, .agg (aRd bs a)), (.pure, I k)] outs res := by
    refine fn_someR (E := { E0 with keep := [2001] }) E0_tab E0_ord (fn := Go.Proofs.Tryz.f170) (by kernel_rfl) (by kernel_rfl) ?_
    conv => whnf
    repeat' first | ((first | refine Sq.cons ?_ | refine Dr.cons ?_ | refine Sq.nil ?_ | (refine Dr.nil ?_; refine drawIf (by kernel_rfl) ?_) | refine Vc.region rfl ?_ | refine Vc.draw rfl (by kernel_rfl) ?_ | refine Vc.cond ?_ | refine Vc.block ?_ | refine Vc.ret ?_ | refine Vc.skip ?_ | refine Vc.exit ?_ | refine mkSl (by omega) (by omega) ?_); conv => whnf) | refine Vc.seq ?_ | (refine ifB_i (fun _ => ?_) (fun _ => ?_) <;> conv => whnf) | (refine callIo (draw_acts bs _ (by omega) hbs) ?_; rintro _ _ ⟨l, b', hb', hl, rfl, rfl⟩; obtain ⟨⟨l1, l4⟩, hl⟩ := catOk_iff.1 hl; have lo : (l.map eA).length = l.length := List.length_map ..; conv => whnf) | (refine callIo (draw_pick bs _ _ (by omega) (by omega) hbs) ?_; rintro _ _ ⟨n, hn, rfl, rfl⟩; conv => whnf) | (refine ioN (by first | omega | (dsimp only; omega) | (simp <;> omega) | (simp_all <;> omega)) (by first | omega | (dsimp only; omega) | (simp <;> omega) | (simp_all <;> omega)) ?_; conv => whnf) | (refine rwI rfl (by first | omega | (dsimp only; omega) | (simp <;> omega) | (simp_all <;> omega)) (by first | omega | (dsimp only; omega) | (simp <;> omega) | (simp_all <;> omega)) fun c hc => ?_; conv => whnf) | (refine rwN (enc := rI) 0 (by first | omega | (dsimp only; omega) | (simp <;> omega) | (simp_all <;> omega)) ?_; conv => whnf) | (refine w64 (by first | omega | (dsimp only; omega)) (by first | omega | (dsimp only; omega)) ?_; conv => whnf) | (refine apN (by simp; omega) ?_; conv => whnf) | (refine callIo (draw_anyAct bs _ _ (by omega) (by omega) hbs) ?_; rintro _ _ ⟨f, b'', hb'', hf, rfl, rfl⟩; conv => whnf) | (refine ioN (by decide) (by first | omega | (dsimp only; omega) | (simp <;> omega) | (simp_all <;> omega)) ?_; conv => whnf) | (refine rwN (enc := eA) default (by first | omega | (dsimp only; omega) | (simp <;> omega) | (simp_all <;> omega)) ?_; conv => whnf)
    all_goals first
      | exact ⟨_, _, ⟨by omega, by omega⟩, by first | omega | simp | (simp; omega), rfl, rfl⟩
      | exact ⟨[], _, ⟨by omega, by omega⟩, by simp, rfl, rfl⟩
      | exact ⟨_, _, ⟨by omega, by omega⟩, by simp; omega, congrArg (fun x => TV.one (.sl 40 x)) (set_act l _ _), rfl⟩
      | skip
    refine Vc.loop1 (fun (out : List (List Line)) => l.length ≤ out.length ∧ out.length ≤ 5) (fun out => updL [4, 33] [(5, .one (.ref 128064))] [(128064, .arr 40 (out.map eA) false)]) (fun out => 7 - out.length) l ⟨by omega, by omega⟩ ?_ (fun out hi => ?_)
    · repeat' (first | exact True.intro | ((conv => whnf); first | exact True.intro | refine ⟨by rfl, ?_⟩ | refine ⟨by first | omega | (show (_ : Int) = _; first | omega | (dsimp only; omega)), ?_⟩ | refine ⟨?_, ?_⟩))
    · have lo' : (out.map eA).length = out.length := List.length_map ..
      obtain ⟨h1, h2⟩ := hi
      conv => whnf
      (repeat' first | ((first | refine Sq.cons ?_ | refine Dr.cons ?_ | refine Sq.nil ?_ | (refine Dr.nil ?_; refine drawIf (by kernel_rfl) ?_) | refine Vc.region rfl ?_ | refine Vc.draw rfl (by kernel_rfl) ?_ | refine Vc.cond ?_ | refine Vc.block ?_ | refine Vc.ret ?_ | refine Vc.skip ?_ | refine Vc.exit ?_ | refine mkSl (by omega) (by omega) ?_); conv => whnf) | refine Vc.seq ?_)
      refine ifB_d (fun g => ?_) (fun g => ?_)
      all_goals conv => whnf
      · repeat' first | ((first | refine Sq.cons ?_ | refine Dr.cons ?_ | refine Sq.nil ?_ | (refine Dr.nil ?_; refine drawIf (by kernel_rfl) ?_) | refine Vc.region rfl ?_ | refine Vc.draw rfl (by kernel_rfl) ?_ | refine Vc.cond ?_ | refine Vc.block ?_ | refine Vc.ret ?_ | refine Vc.skip ?_ | refine Vc.exit ?_ | refine mkSl (by omega) (by omega) ?_); conv => whnf) | refine Vc.seq ?_ | (refine ifB_i (fun _ => ?_) (fun _ => ?_) <;> conv => whnf) | (refine ioN (by decide) (by first | omega | (dsimp only; omega) | (simp <;> omega) | (simp_all <;> omega)) ?_; conv => whnf) | (refine rwN (enc := eA) default (by first | omega | (dsimp only; omega) | (simp <;> omega) | (simp_all <;> omega)) ?_; conv => whnf) | (refine apN (by simp; omega) ?_; conv => whnf)
        refine ⟨out ++ [out.getD 0 default], ⟨by simp; omega, by simp; omega⟩, by simp; omega, ?_⟩
        repeat' (first | exact True.intro | ((conv => whnf); first | exact True.intro | refine ⟨by rfl, ?_⟩ | refine ⟨by first | omega | (show (_ : Int) = _; first | omega | (dsimp only; omega)) | exact app_acts _ _, ?_⟩ | refine ⟨?_, ?_⟩))
      · repeat' first | ((first | refine Sq.cons ?_ | refine Dr.cons ?_ | refine Sq.nil ?_ | (refine Dr.nil ?_; refine drawIf (by kernel_rfl) ?_) | refine Vc.region rfl ?_ | refine Vc.draw rfl (by kernel_rfl) ?_ | refine Vc.cond ?_ | refine Vc.block ?_ | refine Vc.ret ?_ | refine Vc.skip ?_ | refine Vc.exit ?_ | refine mkSl (by omega) (by omega) ?_); conv => whnf) | refine Vc.seq ?_ | (refine ifB_i (fun _ => ?_) (fun _ => ?_) <;> conv => whnf)
        exact ⟨out, _, ⟨by omega, by omega⟩, by omega, rfl, rfl⟩
  obtain ⟨r, o, ⟨f, a', h1, h2, h3, rfl⟩, h4⟩ := key
  exact ⟨_, r, ⟨f, a', h1, h2, h3, rfl⟩, h4⟩
abbrev dPl (p : Plan) : List AV := [eI p.Clients, fAs p.Acts, sI p.Gives, sI p.Start]
theorem draw_plan (bs : List UInt8) (a : Int) (ha : 0 ≤ a ∧ a ≤ 7000000000) (hbs : bs.length ≤ 2000) :
    ∃ os res, (∃ (p : Plan) (a' : Int), (a ≤ a' ∧ a' ≤ a + 300) ∧ planOk p = true ∧ res = .agg (dPl p) ∧ os = aRd bs a') ∧ Sem P 169 [(.io 0 0, .agg (aRd bs a))] [.agg os] res := by
  have key : ∃ res outs, (∃ (p : Plan) (a' : Int), (a ≤ a' ∧ a' ≤ a + 300) ∧ planOk p = true ∧ res = .agg (dPl p) ∧ outs = [.agg (aRd bs a')]) ∧ Sem P 169 [(.io 0 0, .agg (aRd bs a))] outs res := by
    refine fn_someR (E := E0) E0_tab E0_ord (fn := Go.Proofs.Tryz.f169) (by kernel_rfl) (by kernel_rfl) ?_
    conv => whnf
    repeat' first | ((first | refine Sq.cons ?_ | refine Dr.cons ?_ | refine Sq.nil ?_ | (refine Dr.nil ?_; refine drawIf (by kernel_rfl) ?_) | refine Vc.region rfl ?_ | refine Vc.draw rfl (by kernel_rfl) ?_ | refine Vc.cond ?_ | refine Vc.block ?_ | refine Vc.ret ?_ | refine Vc.skip ?_ | refine Vc.exit ?_ | refine mkSl (by omega) (by omega) ?_); conv => whnf) | refine Vc.seq ?_ | (refine ifB_i (fun _ => ?_) (fun _ => ?_) <;> conv => whnf) | (refine callIo (draw_acts bs _ (by omega) hbs) ?_; rintro _ _ ⟨l, b', hb', hl, rfl, rfl⟩; conv => whnf) | (refine callIo (draw_pick bs _ _ (by omega) (by omega) hbs) ?_; rintro _ _ ⟨n, hn, rfl, rfl⟩; conv => whnf) | (refine ioN (by first | omega | (dsimp only; omega) | (simp <;> omega) | (simp_all <;> omega)) (by first | omega | (dsimp only; omega) | (simp <;> omega) | (simp_all <;> omega)) ?_; conv => whnf) | (refine rwI rfl (by first | omega | (dsimp only; omega) | (simp <;> omega) | (simp_all <;> omega)) (by first | omega | (dsimp only; omega) | (simp <;> omega) | (simp_all <;> omega)) fun c hc => ?_; conv => whnf) | (refine rwN (enc := rI) 0 (by first | omega | (dsimp only; omega) | (simp <;> omega) | (simp_all <;> omega)) ?_; conv => whnf) | (refine w64 (by first | omega | (dsimp only; omega)) (by first | omega | (dsimp only; omega)) ?_; conv => whnf) | (refine apN (by simp; omega) ?_; conv => whnf)
    rename_i m hm
    refine Vc.loop3 (fun (i : Int) (g : List Int) (b : Int) => 0 ≤ i ∧ (g.length : Int) = 1 + n - i ∧ (∀ x ∈ g, 0 ≤ x ∧ x ≤ 50) ∧ a ≤ b ∧ b ≤ a + 256 - i) (fun i g b => updL [0, 2, 3, 5, 29, 30, 31, 32, 33, 34, 35, 36, 37, 38, 39, 40, 41, 42, 43] [(4, I i)] [(128384, .box [eI (1 + m), fAs l, .ref 128451, .ref 128452]), (128451, .arr 3 (ints g) false), (63, .box (aRd bs b))]) (fun i _ _ => i.toNat) (1 + n) [] (b' + 1) ⟨by omega, by simp, by simp, by omega, by omega⟩ ?_ (fun i g b hi => ?_)
    · repeat' (first | exact True.intro | ((conv => whnf); first | exact True.intro | refine ⟨by rfl, ?_⟩ | refine ⟨by first | omega | (show (_ : Int) = _; first | omega | (dsimp only; omega)), ?_⟩ | refine ⟨?_, ?_⟩))
    · obtain ⟨i0, hg, hgb, b1, b2⟩ := hi
      have lg := ints_len g
      conv => whnf
      (repeat' first | ((first | refine Sq.cons ?_ | refine Dr.cons ?_ | refine Sq.nil ?_ | (refine Dr.nil ?_; refine drawIf (by kernel_rfl) ?_) | refine Vc.region rfl ?_ | refine Vc.draw rfl (by kernel_rfl) ?_ | refine Vc.cond ?_ | refine Vc.block ?_ | refine Vc.ret ?_ | refine Vc.skip ?_ | refine Vc.exit ?_ | refine mkSl (by omega) (by omega) ?_); conv => whnf) | refine Vc.seq ?_)
      refine ifB_d (fun gd => ?_) (fun gd => ?_)
      all_goals conv => whnf
      · repeat' first | ((first | refine Sq.cons ?_ | refine Dr.cons ?_ | refine Sq.nil ?_ | (refine Dr.nil ?_; refine drawIf (by kernel_rfl) ?_) | refine Vc.region rfl ?_ | refine Vc.draw rfl (by kernel_rfl) ?_ | refine Vc.cond ?_ | refine Vc.block ?_ | refine Vc.ret ?_ | refine Vc.skip ?_ | refine Vc.exit ?_ | refine mkSl (by omega) (by omega) ?_); conv => whnf) | refine Vc.seq ?_ | (refine ifB_i (fun _ => ?_) (fun _ => ?_) <;> conv => whnf) | (refine callIo (draw_pick bs _ _ (by omega) (by omega) hbs) ?_; rintro _ _ ⟨n, hn, rfl, rfl⟩; conv => whnf) | (refine ioN (by first | omega | (dsimp only; omega) | (simp <;> omega) | (simp_all <;> omega)) (by first | omega | (dsimp only; omega) | (simp <;> omega) | (simp_all <;> omega)) ?_; conv => whnf) | (refine rwI rfl (by first | omega | (dsimp only; omega) | (simp <;> omega) | (simp_all <;> omega)) (by first | omega | (dsimp only; omega) | (simp <;> omega) | (simp_all <;> omega)) fun c hc => ?_; conv => whnf) | (refine rwN (enc := rI) 0 (by first | omega | (dsimp only; omega) | (simp <;> omega) | (simp_all <;> omega)) ?_; conv => whnf) | (refine w64 (by first | omega | (dsimp only; omega)) (by first | omega | (dsimp only; omega)) ?_; conv => whnf) | (refine apN (by simp; omega) ?_; conv => whnf)
        have hc2 : 0 ≤ c ∧ c ≤ 50 := by simp [unI] at hc; omega
        refine ⟨i - 1, g ++ [c], b + 1, ⟨by omega, by simp; omega, fun x hx => ?_, by omega, by omega⟩, by simp only; omega, ?_⟩
        · rcases List.mem_append.1 hx with h | h
          · exact hgb x h
          · rw [List.mem_singleton.1 h]; exact hc2
        · repeat' (first | exact True.intro | ((conv => whnf); first | exact True.intro | refine ⟨by rfl, ?_⟩ | refine ⟨by first | omega | (show (_ : Int) = _; first | omega | (dsimp only; omega)) | exact app_ints _ _, ?_⟩ | refine ⟨?_, ?_⟩))
      · (repeat' first | ((first | refine Sq.cons ?_ | refine Dr.cons ?_ | refine Sq.nil ?_ | (refine Dr.nil ?_; refine drawIf (by kernel_rfl) ?_) | refine Vc.region rfl ?_ | refine Vc.draw rfl (by kernel_rfl) ?_ | refine Vc.cond ?_ | refine Vc.block ?_ | refine Vc.ret ?_ | refine Vc.skip ?_ | refine Vc.exit ?_ | refine mkSl (by omega) (by omega) ?_); conv => whnf) | refine Vc.seq ?_)
        refine Vc.loop3 (fun (v : Nat) (st : List Int) (b3 : Int) => v ≤ 3 ∧ st.length = v ∧ (∀ x ∈ st, -1000 ≤ x ∧ x ≤ 1000) ∧ a ≤ b3 ∧ b3 ≤ a + 260 + v) (fun v st b3 => updL [0, 2, 3, 43] [(5, I v)] [(128384, .box [eI (1 + m), fAs l, .ref 128451, .ref 128452]), (128452, .arr 3 (ints st) false), (63, .box (aRd bs b3))]) (fun v _ _ => 3 - v) 0 [] b ⟨by omega, rfl, by simp, by omega, by omega⟩ ?_ (fun v st b3 hi => ?_)
        · repeat' (first | exact True.intro | ((conv => whnf); first | exact True.intro | refine ⟨by rfl, ?_⟩ | refine ⟨by first | omega | (show (_ : Int) = _; first | omega | (dsimp only; omega)), ?_⟩ | refine ⟨?_, ?_⟩))
        · obtain ⟨v3, hs, hsb, c1, c2⟩ := hi
          have ls := ints_len st
          conv => whnf
          (repeat' first | ((first | refine Sq.cons ?_ | refine Dr.cons ?_ | refine Sq.nil ?_ | (refine Dr.nil ?_; refine drawIf (by kernel_rfl) ?_) | refine Vc.region rfl ?_ | refine Vc.draw rfl (by kernel_rfl) ?_ | refine Vc.cond ?_ | refine Vc.block ?_ | refine Vc.ret ?_ | refine Vc.skip ?_ | refine Vc.exit ?_ | refine mkSl (by omega) (by omega) ?_); conv => whnf) | refine Vc.seq ?_)
          refine ifB_d (fun gd2 => ?_) (fun gd2 => ?_)
          all_goals conv => whnf
          · repeat' first | ((first | refine Sq.cons ?_ | refine Dr.cons ?_ | refine Sq.nil ?_ | (refine Dr.nil ?_; refine drawIf (by kernel_rfl) ?_) | refine Vc.region rfl ?_ | refine Vc.draw rfl (by kernel_rfl) ?_ | refine Vc.cond ?_ | refine Vc.block ?_ | refine Vc.ret ?_ | refine Vc.skip ?_ | refine Vc.exit ?_ | refine mkSl (by omega) (by omega) ?_); conv => whnf) | refine Vc.seq ?_ | (refine ifB_i (fun _ => ?_) (fun _ => ?_) <;> conv => whnf) | (refine callIo (draw_pick bs _ _ (by omega) (by omega) hbs) ?_; rintro _ _ ⟨n, hn, rfl, rfl⟩; conv => whnf) | (refine ioN (by first | omega | (dsimp only; omega) | (simp <;> omega) | (simp_all <;> omega)) (by first | omega | (dsimp only; omega) | (simp <;> omega) | (simp_all <;> omega)) ?_; conv => whnf) | (refine rwI rfl (by first | omega | (dsimp only; omega) | (simp <;> omega) | (simp_all <;> omega)) (by first | omega | (dsimp only; omega) | (simp <;> omega) | (simp_all <;> omega)) fun c hc => ?_; conv => whnf) | (refine rwN (enc := rI) 0 (by first | omega | (dsimp only; omega) | (simp <;> omega) | (simp_all <;> omega)) ?_; conv => whnf) | (refine w64 (by first | omega | (dsimp only; omega)) (by first | omega | (dsimp only; omega)) ?_; conv => whnf) | (refine apN (by simp; omega) ?_; conv => whnf)
            have hc2 : -1000 ≤ c ∧ c ≤ 1000 := by simp [unI] at hc; omega
            refine ⟨v + 1, st ++ [c], b3 + 1, ⟨by omega, by simp; omega, fun x hx => ?_, by omega, by omega⟩, by simp only; omega, ?_⟩
            · rcases List.mem_append.1 hx with h | h
              · exact hsb x h
              · rw [List.mem_singleton.1 h]; exact hc2
            · repeat' (first | exact True.intro | ((conv => whnf); first | exact True.intro | refine ⟨by rfl, ?_⟩ | refine ⟨by first | omega | (show (_ : Int) = _; first | omega | (dsimp only; omega)) | exact app_ints _ _, ?_⟩ | refine ⟨?_, ?_⟩))
          · (repeat' first | ((first | refine Sq.cons ?_ | refine Dr.cons ?_ | refine Sq.nil ?_ | (refine Dr.nil ?_; refine drawIf (by kernel_rfl) ?_) | refine Vc.region rfl ?_ | refine Vc.draw rfl (by kernel_rfl) ?_ | refine Vc.cond ?_ | refine Vc.block ?_ | refine Vc.ret ?_ | refine Vc.skip ?_ | refine Vc.exit ?_ | refine mkSl (by omega) (by omega) ?_); conv => whnf) | refine Vc.seq ?_)
            refine ⟨⟨1 + m, l, g, st⟩, b3, ⟨by omega, by omega⟩, ?_, rfl, rfl⟩
            simp only [planOk, Bool.and_eq_true, Plan.treaty, trtOk, givesOk, valOk, List.all_eq_true]
            refine ⟨⟨⟨inB_iff.2 (by omega), hl⟩, within_iff.2 ⟨by omega, hsb⟩⟩, within_iff.2 ⟨by omega, fun x hx => ?_⟩, inB_iff.2 (by omega), fun x hx => inB_iff.2 (hgb x hx)⟩
            have := hsb x hx; omega
  obtain ⟨r, o, ⟨f, a', h1, h2, h3, rfl⟩, h4⟩ := key
  exact ⟨_, r, ⟨f, a', h1, h2, h3, rfl⟩, h4⟩
end Cc
end
section
namespace Cc
open Go Go.AM
set_option maxRecDepth 100000
set_option maxHeartbeats 4000000
theorem plan_len {p : Plan} (h : planOk p = true) : (1 ≤ p.Clients ∧ p.Clients ≤ 4) ∧ (1 ≤ p.Acts.length ∧ p.Acts.length ≤ 4) ∧ (1 ≤ p.Gives.length ∧ p.Gives.length ≤ 3) ∧ p.Start.length = 3 := by
  simp only [planOk, Bool.and_eq_true, Plan.treaty, trtOk, givesOk] at h
  obtain ⟨⟨⟨h1, h2⟩, h3⟩, h4, h5, h6⟩ := h
  have h1 := inB_iff.1 h1
  have h2 := (catOk_iff.1 h2).1
  have h5 := inB_iff.1 h5
  have h3 := (within_iff.1 h3).1
  exact ⟨h1, h2, by omega, h3⟩
def planS (p : Plan) : Prop := (-10 ≤ p.Clients ∧ p.Clients ≤ 10) ∧ p.Acts.length ≤ 10 ∧ p.Gives.length ≤ 10 ∧ p.Start.length ≤ 3
theorem drPlan {a m : Int} {bs : List UInt8} {res : TV} {os : List TV} {c : Int} {l : List (List Line)} {g s : List Int} {a' : Int} (e : res = .agg [eI c, fAs l, sI g, sI s]) (e2 : os = [.agg (aRd bs a')]) (hb : a ≤ a' ∧ a' ≤ a + m) (h : planS ⟨c, l, g, s⟩) :
    ∃ (p : Plan) (a' : Int), (a ≤ a' ∧ a' ≤ a + m) ∧ planS p ∧ res = .agg (dPl p) ∧ os = [.agg (aRd bs a')] := ⟨⟨c, l, g, s⟩, a', hb, h, e, e2⟩
theorem app_ints3 (l : List Int) (x y z : Int) : ints l ++ [rI x, rI y, rI z] = ints (l ++ [x, y, z]) := by simp
theorem draw_anyPlan (bs : List UInt8) (a k : Int) (ha : 0 ≤ a ∧ a ≤ 6000000000) (hk : 1 ≤ k ∧ k ≤ 1000000) (hbs : bs.length ≤ 2000) :
    ∃ os res, (∃ (p : Plan) (a' : Int), (a ≤ a' ∧ a' ≤ a + 800) ∧ planS p ∧ res = .agg (dPl p) ∧ os = aRd bs a') ∧ Sem P 71 [(.io 0 0, .agg (aRd bs a)), (.pure, I k)] [.agg os] res := by
  have key : ∃ res outs, (∃ (p : Plan) (a' : Int), (a ≤ a' ∧ a' ≤ a + 800) ∧ planS p ∧ res = .agg (dPl p) ∧ outs = [.agg (aRd bs a')]) ∧ Sem P 71 [(.io 0 0, .agg (aRd bs a)), (.pure, I k)] outs res := by
    refine fn_someR (E := { E0 with keep := [2001], cut := [6002] }) E0_tab E0_ord (fn := Go.Proofs.Tryz.f71) (by kernel_rfl) (by kernel_rfl) ?_
    conv => whnf
    repeat' first | ((first | refine Sq.cons ?_ | refine Dr.cons ?_ | refine Sq.nil ?_ | (refine Dr.nil ?_; refine drawIf (by kernel_rfl) ?_) | refine Vc.region rfl ?_ | refine Vc.draw rfl (by kernel_rfl) ?_ | refine Vc.cond ?_ | refine Vc.block ?_ | refine Vc.ret ?_ | refine Vc.skip ?_ | refine Vc.exit ?_ | refine mkSl (by omega) (by omega) ?_); conv => whnf) | refine Vc.seq ?_ | (refine ifB_i (fun _ => ?_) (fun _ => ?_) <;> conv => whnf) | (refine callIo (draw_plan bs _ (by omega) hbs) ?_; rintro _ _ ⟨p, b', hb', hp, rfl, rfl⟩; obtain ⟨p1, p2, p3, p4⟩ := plan_len hp; conv => whnf) | (refine callIo (draw_pick bs _ _ (by omega) (by omega) hbs) ?_; rintro _ _ ⟨n, hn, rfl, rfl⟩; conv => whnf) | (refine ioN (by first | omega | (dsimp only; omega) | (simp <;> omega) | (simp_all <;> omega)) (by first | omega | (dsimp only; omega) | (simp <;> omega) | (simp_all <;> omega)) ?_; conv => whnf) | (refine rwI rfl (by first | omega | (dsimp only; omega) | (simp <;> omega) | (simp_all <;> omega)) (by first | omega | (dsimp only; omega) | (simp <;> omega) | (simp_all <;> omega)) fun c hc => ?_; conv => whnf) | (refine rwN (enc := rI) 0 (by first | omega | (dsimp only; omega) | (simp <;> omega) | (simp_all <;> omega)) ?_; conv => whnf) | (refine w64 (by first | omega | (dsimp only; omega)) (by first | omega | (dsimp only; omega)) ?_; conv => whnf) | (refine apN (by simp; omega) ?_; conv => whnf) | (refine callIo (draw_anyActs bs _ _ (by omega) (by omega) hbs) ?_; rintro _ _ ⟨l, b'', hb'', hl, rfl, rfl⟩; conv => whnf) | (refine ioN (by decide) (by first | omega | (dsimp only; omega) | (simp <;> omega) | (simp_all <;> omega)) ?_; conv => whnf) | (refine rwN (enc := rI) 0 (by first | omega | (dsimp only; omega) | (simp <;> omega) | (simp_all <;> omega)) ?_; conv => whnf) | (refine slN (by decide) (by decide) (by first | omega | (dsimp only; omega) | (simp <;> omega) | (simp_all <;> omega)) ?_; conv => whnf) | (refine ctN ?_; conv => whnf)
    all_goals
      apply drPlan
      · (try simp only [set_ints, app_ints3, ints_take]); rfl
      · rfl
      · constructor <;> omega
      · (try simp only [unI, List.mem_cons, List.not_mem_nil, or_false] at hc); (simp [planS]; omega)
  obtain ⟨r, o, ⟨f, a', h1, h2, h3, rfl⟩, h4⟩ := key
  exact ⟨_, r, ⟨f, a', h1, h2, h3, rfl⟩, h4⟩
def cllS (c : Call) : Prop := (-10 ≤ c.Client ∧ c.Client ≤ 10) ∧ (0 ≤ c.Seq ∧ c.Seq ≤ 400) ∧ (-10 ≤ c.Act ∧ c.Act ≤ 10) ∧ c.Args.length ≤ 3
end Cc
end
section
namespace Cc
open Go Go.AM
set_option maxRecDepth 100000
set_option maxHeartbeats 4000000
abbrev sBy (bs : List UInt8) : AV := .sl 5 (bytesRows bs)
theorem take_bytes (bs : List UInt8) (n : Nat) : (bytesRows bs).take n = bytesRows (bs.take n) := List.map_take.symm
theorem draw_open (bs : List UInt8) : ∃ res, (∃ cs : List UInt8, cs.length ≤ 2000 ∧ res = .one (.fp [] (aRd cs 0) 0)) ∧ Sem P 70 [(.pure, .one (sBy bs))] [] res := by
  have lb : (bytesRows bs).length = bs.length := List.length_map ..
  by_cases h : bs.length ≤ 2000
  · refine ⟨_, ⟨bs, h, rfl⟩, ?_⟩
    refine fn_okR (E := E0) E0_tab E0_ord (fn := Go.Proofs.Tryz.f70) (by kernel_rfl) (by kernel_rfl) (fun hb => ?_)
    conv => whnf
    repeat' first | ((first | refine Sq.cons ?_ | refine Dr.cons ?_ | refine Sq.nil ?_ | (refine Dr.nil ?_; refine drawIf (by kernel_rfl) ?_) | refine Vc.region rfl ?_ | refine Vc.draw rfl (by kernel_rfl) ?_ | refine Vc.cond ?_ | refine Vc.block ?_ | refine Vc.ret ?_ | refine Vc.skip ?_ | refine Vc.exit ?_ | refine mkSl (by omega) (by omega) ?_); conv => whnf) | refine Vc.seq ?_ | (refine ifB_i (fun _ => ?_) (fun _ => ?_) <;> conv => whnf) | (refine slN (by decide) (by decide) (by first | omega | (dsimp only; omega) | (simp <;> omega) | (simp_all <;> omega)) ?_; conv => whnf)
    all_goals first | exact ⟨rfl, rfl⟩ | (exfalso; simp_all; omega)
  · refine ⟨_, ⟨bs.take 2000, by simp; omega, rfl⟩, ?_⟩
    refine fn_okR (E := E0) E0_tab E0_ord (fn := Go.Proofs.Tryz.f70) (by kernel_rfl) (by kernel_rfl) (fun hb => ?_)
    conv => whnf
    repeat' first | ((first | refine Sq.cons ?_ | refine Dr.cons ?_ | refine Sq.nil ?_ | (refine Dr.nil ?_; refine drawIf (by kernel_rfl) ?_) | refine Vc.region rfl ?_ | refine Vc.draw rfl (by kernel_rfl) ?_ | refine Vc.cond ?_ | refine Vc.block ?_ | refine Vc.ret ?_ | refine Vc.skip ?_ | refine Vc.exit ?_ | refine mkSl (by omega) (by omega) ?_); conv => whnf) | refine Vc.seq ?_ | (refine ifB_i (fun _ => ?_) (fun _ => ?_) <;> conv => whnf) | (refine slN (by decide) (by decide) (by first | omega | (dsimp only; omega) | (simp <;> omega) | (simp_all <;> omega)) ?_; conv => whnf)
    all_goals first | exact ⟨congrArg (fun x => TV.one (.fp [] [.fr [] 5 x, eI 0] 0)) (take_bytes _ _), rfl⟩ | (exfalso; simp_all; omega)
end Cc
end
section
namespace Cc
open Go Go.AM
set_option maxRecDepth 100000
set_option maxHeartbeats 4000000
theorem co_holds : Sem P 17 [] [] (B true) := by
  refine fn_okR (E := E0) E0_tab E0_ord (fn := Go.Proofs.Tryz.f17) (by kernel_rfl) (by kernel_rfl) (fun hb => ?_)
  conv => whnf
  repeat' first | ((first | refine Sq.cons ?_ | refine Dr.cons ?_ | refine Sq.nil ?_ | (refine Dr.nil ?_; refine drawIf (by kernel_rfl) ?_) | refine Vc.region rfl ?_ | refine Vc.draw rfl (by kernel_rfl) ?_ | refine Vc.cond ?_ | refine Vc.block ?_ | refine Vc.ret ?_ | refine Vc.skip ?_ | refine Vc.exit ?_ | refine mkSl (by omega) (by omega) ?_); conv => whnf) | refine Vc.seq ?_ | (refine ifB_i (fun _ => ?_) (fun _ => ?_) <;> conv => whnf) | (refine ⟨_, impl_zero, ?_⟩; conv => whnf) | (refine ⟨_, impl_frmOk Form.zero, ?_⟩; conv => whnf)
  exact rB rfl
end Cc
end
section
namespace Cc
open Go Go.AM
set_option maxRecDepth 100000
theorem co_ints (a b : List Int) : Sem P 16 [(.pure, AI a), (.pure, AI b)] [] (B (decide (a = b))) := by
  refine fn_okR (E := E0) E0_tab E0_ord (fn := Go.Proofs.Tryz.f16) (by kernel_rfl) (by kernel_rfl) (fun hb => ?_)
  have la := ints_len a
  have lb := ints_len b
  have hb1 : a.length ≤ 1125899906842624 := by simp [bdIns, bdT, bdA] at hb; omega
  conv => whnf
  (repeat' first | ((first | refine Sq.cons ?_ | refine Dr.cons ?_ | refine Sq.nil ?_ | (refine Dr.nil ?_; refine drawIf (by kernel_rfl) ?_) | refine Vc.region rfl ?_ | refine Vc.draw rfl (by kernel_rfl) ?_ | refine Vc.cond ?_ | refine Vc.block ?_ | refine Vc.ret ?_ | refine Vc.skip ?_ | refine Vc.exit ?_ | refine mkSl (by omega) (by omega) ?_); conv => whnf) | refine Vc.seq ?_)
  refine ifB_i (fun h => ?_) (fun h => ?_)
  all_goals conv => whnf
  all_goals (repeat' first | ((first | refine Sq.cons ?_ | refine Dr.cons ?_ | refine Sq.nil ?_ | (refine Dr.nil ?_; refine drawIf (by kernel_rfl) ?_) | refine Vc.region rfl ?_ | refine Vc.draw rfl (by kernel_rfl) ?_ | refine Vc.cond ?_ | refine Vc.block ?_ | refine Vc.ret ?_ | refine Vc.skip ?_ | refine Vc.exit ?_ | refine mkSl (by omega) (by omega) ?_); conv => whnf) | refine Vc.seq ?_)
  · exact rB (by have := ne_of_bne h; symm; simp; intro e; subst e; simp at this)
  · have h := eq_of_bne h
    refine Vc.loop { i : Nat // ∀ j, j < i → a.getD j 0 = b.getD j 0 } (fun i => updL [0, 1] [(5, I i.1)] []) (fun i => a.length - i.1) ⟨0, by simp⟩ ?_ (fun i => ?_)
    · repeat' (first | exact True.intro | ((conv => whnf); first | exact True.intro | refine ⟨by rfl, ?_⟩ | refine ⟨?_, ?_⟩))
    · have hi := i.2
      conv => whnf
      (repeat' first | ((first | refine Sq.cons ?_ | refine Dr.cons ?_ | refine Sq.nil ?_ | (refine Dr.nil ?_; refine drawIf (by kernel_rfl) ?_) | refine Vc.region rfl ?_ | refine Vc.draw rfl (by kernel_rfl) ?_ | refine Vc.cond ?_ | refine Vc.block ?_ | refine Vc.ret ?_ | refine Vc.skip ?_ | refine Vc.exit ?_ | refine mkSl (by omega) (by omega) ?_); conv => whnf) | refine Vc.seq ?_)
      refine ifB_d (fun g => ?_) (fun g => ?_)
      all_goals conv => whnf
      · repeat' first | ((first | refine Sq.cons ?_ | refine Dr.cons ?_ | refine Sq.nil ?_ | (refine Dr.nil ?_; refine drawIf (by kernel_rfl) ?_) | refine Vc.region rfl ?_ | refine Vc.draw rfl (by kernel_rfl) ?_ | refine Vc.cond ?_ | refine Vc.block ?_ | refine Vc.ret ?_ | refine Vc.skip ?_ | refine Vc.exit ?_ | refine mkSl (by omega) (by omega) ?_); conv => whnf) | refine Vc.seq ?_ | (refine ifB_i (fun _ => ?_) (fun _ => ?_) <;> conv => whnf) | (refine ixN (enc := rI) 0 (by omega) ?_; conv => whnf) | (refine w64 (by omega) (by omega) ?_; conv => whnf)
        · rename_i g'
          exact rB (by have := ne_of_bne g'; symm; simp; intro e; subst e; simp at this)
        · rename_i g'
          have e := eq_of_bne g'
          refine ⟨⟨i.1 + 1, fun j hj => ?_⟩, ?_, ?_⟩
          · by_cases h : j < i.1
            · exact hi j h
            · obtain rfl : j = i.1 := by omega
              exact e
          · simp only; omega
          · repeat' (first | exact True.intro | ((conv => whnf); first | exact True.intro | refine ⟨by rfl, ?_⟩ | refine ⟨?_, ?_⟩))
      · (repeat' first | ((first | refine Sq.cons ?_ | refine Dr.cons ?_ | refine Sq.nil ?_ | (refine Dr.nil ?_; refine drawIf (by kernel_rfl) ?_) | refine Vc.region rfl ?_ | refine Vc.draw rfl (by kernel_rfl) ?_ | refine Vc.cond ?_ | refine Vc.block ?_ | refine Vc.ret ?_ | refine Vc.skip ?_ | refine Vc.exit ?_ | refine mkSl (by omega) (by omega) ?_); conv => whnf) | refine Vc.seq ?_)
        exact rB (by symm; simp; exact ext_get 0 (by omega) fun j hj => hi j (by omega))
theorem co_form (a b : Form) : Sem P 341 [(.pure, .agg (aF a)), (.pure, .agg (aF b))] [] (B (decide (a = b))) := by
  refine fn_okR (E := E0) E0_tab E0_ord (fn := Go.Proofs.Tryz.f341) (by kernel_rfl) (by kernel_rfl) (fun hb => ?_)
  conv => whnf
  repeat' first | ((first | refine Sq.cons ?_ | refine Dr.cons ?_ | refine Sq.nil ?_ | (refine Dr.nil ?_; refine drawIf (by kernel_rfl) ?_) | refine Vc.region rfl ?_ | refine Vc.draw rfl (by kernel_rfl) ?_ | refine Vc.cond ?_ | refine Vc.block ?_ | refine Vc.ret ?_ | refine Vc.skip ?_ | refine Vc.exit ?_ | refine mkSl (by omega) (by omega) ?_); conv => whnf) | refine Vc.seq ?_ | (refine ifB_i (fun _ => ?_) (fun _ => ?_) <;> conv => whnf) | (refine ⟨_, co_ints _ _, ?_⟩; conv => whnf)
  all_goals refine rB ?_
  all_goals (cases a; cases b; first | (simp_all; done) | (simp_all; rfl))
theorem co_line (a b : Line) : Sem P 287 [(.pure, .agg (aL a)), (.pure, .agg (aL b))] [] (B (decide (a = b))) := by
  refine fn_okR (E := E0) E0_tab E0_ord (fn := Go.Proofs.Tryz.f287) (by kernel_rfl) (by kernel_rfl) (fun hb => ?_)
  conv => whnf
  repeat' first | ((first | refine Sq.cons ?_ | refine Dr.cons ?_ | refine Sq.nil ?_ | (refine Dr.nil ?_; refine drawIf (by kernel_rfl) ?_) | refine Vc.region rfl ?_ | refine Vc.draw rfl (by kernel_rfl) ?_ | refine Vc.cond ?_ | refine Vc.block ?_ | refine Vc.ret ?_ | refine Vc.skip ?_ | refine Vc.exit ?_ | refine mkSl (by omega) (by omega) ?_); conv => whnf) | refine Vc.seq ?_ | (refine ifB_i (fun _ => ?_) (fun _ => ?_) <;> conv => whnf) | (refine ⟨_, co_form a.Form b.Form, ?_⟩; conv => whnf)
  all_goals refine rB ?_
  all_goals (cases a; cases b; first | (simp_all; done) | (simp_all; rfl))
theorem co_res (a b : Rslt) : Sem P 44 [(.pure, .agg (aR a)), (.pure, .agg (aR b))] [] (B (decide (a = b))) := by
  refine fn_okR (E := E0) E0_tab E0_ord (fn := Go.Proofs.Tryz.f44) (by kernel_rfl) (by kernel_rfl) (fun hb => ?_)
  conv => whnf
  repeat' first | ((first | refine Sq.cons ?_ | refine Dr.cons ?_ | refine Sq.nil ?_ | (refine Dr.nil ?_; refine drawIf (by kernel_rfl) ?_) | refine Vc.region rfl ?_ | refine Vc.draw rfl (by kernel_rfl) ?_ | refine Vc.cond ?_ | refine Vc.block ?_ | refine Vc.ret ?_ | refine Vc.skip ?_ | refine Vc.exit ?_ | refine mkSl (by omega) (by omega) ?_); conv => whnf) | refine Vc.seq ?_ | (refine ifB_i (fun _ => ?_) (fun _ => ?_) <;> conv => whnf) | (refine ⟨_, co_ints _ _, ?_⟩; conv => whnf)
  all_goals refine rB ?_
  all_goals (cases a; cases b; first | (simp_all; done) | (simp_all; rfl))
theorem co_call (a b : Call) : Sem P 63 [(.pure, .agg (aC a)), (.pure, .agg (aC b))] [] (B (decide (a = b))) := by
  refine fn_okR (E := E0) E0_tab E0_ord (fn := Go.Proofs.Tryz.f63) (by kernel_rfl) (by kernel_rfl) (fun hb => ?_)
  conv => whnf
  repeat' first | ((first | refine Sq.cons ?_ | refine Dr.cons ?_ | refine Sq.nil ?_ | (refine Dr.nil ?_; refine drawIf (by kernel_rfl) ?_) | refine Vc.region rfl ?_ | refine Vc.draw rfl (by kernel_rfl) ?_ | refine Vc.cond ?_ | refine Vc.block ?_ | refine Vc.ret ?_ | refine Vc.skip ?_ | refine Vc.exit ?_ | refine mkSl (by omega) (by omega) ?_); conv => whnf) | refine Vc.seq ?_ | (refine ifB_i (fun _ => ?_) (fun _ => ?_) <;> conv => whnf) | (refine ⟨_, co_ints _ _, ?_⟩; conv => whnf)
  all_goals refine rB ?_
  all_goals (cases a; cases b; first | (simp_all; done) | (simp_all; rfl))
theorem co_act (a b : List Line) : Sem P 191 [(.pure, .one (sLs a)), (.pure, .one (sLs b))] [] (B (decide (a = b))) := by
  refine fn_okR (E := E0) E0_tab E0_ord (fn := Go.Proofs.Tryz.f191) (by kernel_rfl) (by kernel_rfl) (fun hb => ?_)
  have la : (a.map eL).length = a.length := List.length_map ..
  have lb : (b.map eL).length = b.length := List.length_map ..
  have hb1 : (a.map eL).length ≤ 1125899906842624 := hb.1.1
  conv => whnf
  (repeat' first | ((first | refine Sq.cons ?_ | refine Dr.cons ?_ | refine Sq.nil ?_ | (refine Dr.nil ?_; refine drawIf (by kernel_rfl) ?_) | refine Vc.region rfl ?_ | refine Vc.draw rfl (by kernel_rfl) ?_ | refine Vc.cond ?_ | refine Vc.block ?_ | refine Vc.ret ?_ | refine Vc.skip ?_ | refine Vc.exit ?_ | refine mkSl (by omega) (by omega) ?_); conv => whnf) | refine Vc.seq ?_)
  refine ifB_i (fun h => ?_) (fun h => ?_)
  all_goals conv => whnf
  all_goals (repeat' first | ((first | refine Sq.cons ?_ | refine Dr.cons ?_ | refine Sq.nil ?_ | (refine Dr.nil ?_; refine drawIf (by kernel_rfl) ?_) | refine Vc.region rfl ?_ | refine Vc.draw rfl (by kernel_rfl) ?_ | refine Vc.cond ?_ | refine Vc.block ?_ | refine Vc.ret ?_ | refine Vc.skip ?_ | refine Vc.exit ?_ | refine mkSl (by omega) (by omega) ?_); conv => whnf) | refine Vc.seq ?_)
  · exact rB (by have := ne_of_bne h; symm; simp; intro e; subst e; simp at this)
  · have h := eq_of_bne h
    repeat' first | ((first | refine Sq.cons ?_ | refine Dr.cons ?_ | refine Sq.nil ?_ | (refine Dr.nil ?_; refine drawIf (by kernel_rfl) ?_) | refine Vc.region rfl ?_ | refine Vc.draw rfl (by kernel_rfl) ?_ | refine Vc.cond ?_ | refine Vc.block ?_ | refine Vc.ret ?_ | refine Vc.skip ?_ | refine Vc.exit ?_ | refine mkSl (by omega) (by omega) ?_); conv => whnf) | refine Vc.seq ?_ | (refine ifB_i (fun _ => ?_) (fun _ => ?_) <;> conv => whnf)
    refine Vc.loop { i : Nat // ∀ j, j < i → a.getD j default = b.getD j default } (fun i => updL [0, 1] [(5, I i.1)] []) (fun i => a.length - i.1) ⟨0, by simp⟩ ?_ (fun i => ?_)
    · repeat' (first | exact True.intro | ((conv => whnf); first | exact True.intro | refine ⟨by rfl, ?_⟩ | refine ⟨?_, ?_⟩))
    · have hi := i.2
      conv => whnf
      (repeat' first | ((first | refine Sq.cons ?_ | refine Dr.cons ?_ | refine Sq.nil ?_ | (refine Dr.nil ?_; refine drawIf (by kernel_rfl) ?_) | refine Vc.region rfl ?_ | refine Vc.draw rfl (by kernel_rfl) ?_ | refine Vc.cond ?_ | refine Vc.block ?_ | refine Vc.ret ?_ | refine Vc.skip ?_ | refine Vc.exit ?_ | refine mkSl (by omega) (by omega) ?_); conv => whnf) | refine Vc.seq ?_)
      refine ifB_d (fun g => ?_) (fun g => ?_)
      all_goals conv => whnf
      · repeat' first | ((first | refine Sq.cons ?_ | refine Dr.cons ?_ | refine Sq.nil ?_ | (refine Dr.nil ?_; refine drawIf (by kernel_rfl) ?_) | refine Vc.region rfl ?_ | refine Vc.draw rfl (by kernel_rfl) ?_ | refine Vc.cond ?_ | refine Vc.block ?_ | refine Vc.ret ?_ | refine Vc.skip ?_ | refine Vc.exit ?_ | refine mkSl (by omega) (by omega) ?_); conv => whnf) | refine Vc.seq ?_ | (refine ifB_i (fun _ => ?_) (fun _ => ?_) <;> conv => whnf) | (refine ixN (enc := eL) default (by omega) ?_; conv => whnf) | (refine ⟨_, co_line _ _, ?_⟩; conv => whnf) | (refine w64 (by omega) (by omega) ?_; conv => whnf)
        all_goals first
          | exact rB (by symm; simp only [decide_eq_false_iff_not]; intro e; subst e; simp_all)
          | (refine ⟨⟨i.1 + 1, fun j hj => ?_⟩, ?_, ?_⟩
             · by_cases h : j < i.1
               · exact hi j h
               · obtain rfl : j = i.1 := by omega
                 (first | (simp_all; done) | (generalize a.getD i.1 default = x at *; generalize b.getD i.1 default = y at *; clear hi; cases x; cases y; simp_all))
             · simp only; omega
             · repeat' (first | exact True.intro | ((conv => whnf); first | exact True.intro | refine ⟨by rfl, ?_⟩ | refine ⟨?_, ?_⟩)))
      · (repeat' first | ((first | refine Sq.cons ?_ | refine Dr.cons ?_ | refine Sq.nil ?_ | (refine Dr.nil ?_; refine drawIf (by kernel_rfl) ?_) | refine Vc.region rfl ?_ | refine Vc.draw rfl (by kernel_rfl) ?_ | refine Vc.cond ?_ | refine Vc.block ?_ | refine Vc.ret ?_ | refine Vc.skip ?_ | refine Vc.exit ?_ | refine mkSl (by omega) (by omega) ?_); conv => whnf) | refine Vc.seq ?_)
        exact rB (by symm; simp; exact ext_get default (by omega) fun j hj => hi j (by omega))
theorem co_done (a b : List Done) : Sem P 140 [(.pure, .one (sDs a)), (.pure, .one (sDs b))] [] (B (decide (a = b))) := by
  refine fn_okR (E := E0) E0_tab E0_ord (fn := Go.Proofs.Tryz.f140) (by kernel_rfl) (by kernel_rfl) (fun hb => ?_)
  have la : (a.map eD).length = a.length := List.length_map ..
  have lb : (b.map eD).length = b.length := List.length_map ..
  have hb1 : (a.map eD).length ≤ 1125899906842624 := hb.1.1
  conv => whnf
  (repeat' first | ((first | refine Sq.cons ?_ | refine Dr.cons ?_ | refine Sq.nil ?_ | (refine Dr.nil ?_; refine drawIf (by kernel_rfl) ?_) | refine Vc.region rfl ?_ | refine Vc.draw rfl (by kernel_rfl) ?_ | refine Vc.cond ?_ | refine Vc.block ?_ | refine Vc.ret ?_ | refine Vc.skip ?_ | refine Vc.exit ?_ | refine mkSl (by omega) (by omega) ?_); conv => whnf) | refine Vc.seq ?_)
  refine ifB_i (fun h => ?_) (fun h => ?_)
  all_goals conv => whnf
  all_goals (repeat' first | ((first | refine Sq.cons ?_ | refine Dr.cons ?_ | refine Sq.nil ?_ | (refine Dr.nil ?_; refine drawIf (by kernel_rfl) ?_) | refine Vc.region rfl ?_ | refine Vc.draw rfl (by kernel_rfl) ?_ | refine Vc.cond ?_ | refine Vc.block ?_ | refine Vc.ret ?_ | refine Vc.skip ?_ | refine Vc.exit ?_ | refine mkSl (by omega) (by omega) ?_); conv => whnf) | refine Vc.seq ?_)
  · exact rB (by have := ne_of_bne h; symm; simp; intro e; subst e; simp at this)
  · have h := eq_of_bne h
    repeat' first | ((first | refine Sq.cons ?_ | refine Dr.cons ?_ | refine Sq.nil ?_ | (refine Dr.nil ?_; refine drawIf (by kernel_rfl) ?_) | refine Vc.region rfl ?_ | refine Vc.draw rfl (by kernel_rfl) ?_ | refine Vc.cond ?_ | refine Vc.block ?_ | refine Vc.ret ?_ | refine Vc.skip ?_ | refine Vc.exit ?_ | refine mkSl (by omega) (by omega) ?_); conv => whnf) | refine Vc.seq ?_ | (refine ifB_i (fun _ => ?_) (fun _ => ?_) <;> conv => whnf)
    refine Vc.loop { i : Nat // ∀ j, j < i → a.getD j default = b.getD j default } (fun i => updL [0, 1] [(5, I i.1)] []) (fun i => a.length - i.1) ⟨0, by simp⟩ ?_ (fun i => ?_)
    · repeat' (first | exact True.intro | ((conv => whnf); first | exact True.intro | refine ⟨by rfl, ?_⟩ | refine ⟨?_, ?_⟩))
    · have hi := i.2
      conv => whnf
      (repeat' first | ((first | refine Sq.cons ?_ | refine Dr.cons ?_ | refine Sq.nil ?_ | (refine Dr.nil ?_; refine drawIf (by kernel_rfl) ?_) | refine Vc.region rfl ?_ | refine Vc.draw rfl (by kernel_rfl) ?_ | refine Vc.cond ?_ | refine Vc.block ?_ | refine Vc.ret ?_ | refine Vc.skip ?_ | refine Vc.exit ?_ | refine mkSl (by omega) (by omega) ?_); conv => whnf) | refine Vc.seq ?_)
      refine ifB_d (fun g => ?_) (fun g => ?_)
      all_goals conv => whnf
      · repeat' first | ((first | refine Sq.cons ?_ | refine Dr.cons ?_ | refine Sq.nil ?_ | (refine Dr.nil ?_; refine drawIf (by kernel_rfl) ?_) | refine Vc.region rfl ?_ | refine Vc.draw rfl (by kernel_rfl) ?_ | refine Vc.cond ?_ | refine Vc.block ?_ | refine Vc.ret ?_ | refine Vc.skip ?_ | refine Vc.exit ?_ | refine mkSl (by omega) (by omega) ?_); conv => whnf) | refine Vc.seq ?_ | (refine ifB_i (fun _ => ?_) (fun _ => ?_) <;> conv => whnf) | (refine ixN (enc := eD) default (by omega) ?_; conv => whnf) | (refine ⟨_, co_res (a.getD i.1 default).Res (b.getD i.1 default).Res, ?_⟩; conv => whnf) | (refine w64 (by omega) (by omega) ?_; conv => whnf)
        all_goals first
          | exact rB (by symm; simp only [decide_eq_false_iff_not]; intro e; subst e; simp_all)
          | (refine ⟨⟨i.1 + 1, fun j hj => ?_⟩, ?_, ?_⟩
             · by_cases h : j < i.1
               · exact hi j h
               · obtain rfl : j = i.1 := by omega
                 (first | (simp_all; done) | (generalize a.getD i.1 default = x at *; generalize b.getD i.1 default = y at *; clear hi; cases x; cases y; simp_all))
             · simp only; omega
             · repeat' (first | exact True.intro | ((conv => whnf); first | exact True.intro | refine ⟨by rfl, ?_⟩ | refine ⟨?_, ?_⟩)))
      · (repeat' first | ((first | refine Sq.cons ?_ | refine Dr.cons ?_ | refine Sq.nil ?_ | (refine Dr.nil ?_; refine drawIf (by kernel_rfl) ?_) | refine Vc.region rfl ?_ | refine Vc.draw rfl (by kernel_rfl) ?_ | refine Vc.cond ?_ | refine Vc.block ?_ | refine Vc.ret ?_ | refine Vc.skip ?_ | refine Vc.exit ?_ | refine mkSl (by omega) (by omega) ?_); conv => whnf) | refine Vc.seq ?_)
        exact rB (by symm; simp; exact ext_get default (by omega) fun j hj => hi j (by omega))
theorem co_msg (a b : Msg) : Sem P 162 [(.pure, .agg (aM a)), (.pure, .agg (aM b))] [] (B (decide (a = b))) := by
  refine fn_okR (E := E0) E0_tab E0_ord (fn := Go.Proofs.Tryz.f162) (by kernel_rfl) (by kernel_rfl) (fun hb => ?_)
  conv => whnf
  repeat' first | ((first | refine Sq.cons ?_ | refine Dr.cons ?_ | refine Sq.nil ?_ | (refine Dr.nil ?_; refine drawIf (by kernel_rfl) ?_) | refine Vc.region rfl ?_ | refine Vc.draw rfl (by kernel_rfl) ?_ | refine Vc.cond ?_ | refine Vc.block ?_ | refine Vc.ret ?_ | refine Vc.skip ?_ | refine Vc.exit ?_ | refine mkSl (by omega) (by omega) ?_); conv => whnf) | refine Vc.seq ?_ | (refine ifB_i (fun _ => ?_) (fun _ => ?_) <;> conv => whnf) | (refine ⟨_, co_call a.Call b.Call, ?_⟩; conv => whnf) | (refine ⟨_, co_ints _ _, ?_⟩; conv => whnf) | (refine ⟨_, co_done _ _, ?_⟩; conv => whnf)
  all_goals refine rB ?_
  all_goals (cases a; cases b; first | (simp_all; done) | (simp_all; rfl))
theorem co_net (a b : List Msg) : Sem P 59 [(.pure, .one (sMs a)), (.pure, .one (sMs b))] [] (B (decide (a = b))) := by
  refine fn_okR (E := E0) E0_tab E0_ord (fn := Go.Proofs.Tryz.f59) (by kernel_rfl) (by kernel_rfl) (fun hb => ?_)
  have la : (a.map eM).length = a.length := List.length_map ..
  have lb : (b.map eM).length = b.length := List.length_map ..
  have hb1 : (a.map eM).length ≤ 1125899906842624 := hb.1.1
  conv => whnf
  (repeat' first | ((first | refine Sq.cons ?_ | refine Dr.cons ?_ | refine Sq.nil ?_ | (refine Dr.nil ?_; refine drawIf (by kernel_rfl) ?_) | refine Vc.region rfl ?_ | refine Vc.draw rfl (by kernel_rfl) ?_ | refine Vc.cond ?_ | refine Vc.block ?_ | refine Vc.ret ?_ | refine Vc.skip ?_ | refine Vc.exit ?_ | refine mkSl (by omega) (by omega) ?_); conv => whnf) | refine Vc.seq ?_)
  refine ifB_i (fun h => ?_) (fun h => ?_)
  all_goals conv => whnf
  all_goals (repeat' first | ((first | refine Sq.cons ?_ | refine Dr.cons ?_ | refine Sq.nil ?_ | (refine Dr.nil ?_; refine drawIf (by kernel_rfl) ?_) | refine Vc.region rfl ?_ | refine Vc.draw rfl (by kernel_rfl) ?_ | refine Vc.cond ?_ | refine Vc.block ?_ | refine Vc.ret ?_ | refine Vc.skip ?_ | refine Vc.exit ?_ | refine mkSl (by omega) (by omega) ?_); conv => whnf) | refine Vc.seq ?_)
  · exact rB (by have := ne_of_bne h; symm; simp; intro e; subst e; simp at this)
  · have h := eq_of_bne h
    repeat' first | ((first | refine Sq.cons ?_ | refine Dr.cons ?_ | refine Sq.nil ?_ | (refine Dr.nil ?_; refine drawIf (by kernel_rfl) ?_) | refine Vc.region rfl ?_ | refine Vc.draw rfl (by kernel_rfl) ?_ | refine Vc.cond ?_ | refine Vc.block ?_ | refine Vc.ret ?_ | refine Vc.skip ?_ | refine Vc.exit ?_ | refine mkSl (by omega) (by omega) ?_); conv => whnf) | refine Vc.seq ?_ | (refine ifB_i (fun _ => ?_) (fun _ => ?_) <;> conv => whnf)
    refine Vc.loop { i : Nat // ∀ j, j < i → a.getD j default = b.getD j default } (fun i => updL [0, 1] [(5, I i.1)] []) (fun i => a.length - i.1) ⟨0, by simp⟩ ?_ (fun i => ?_)
    · repeat' (first | exact True.intro | ((conv => whnf); first | exact True.intro | refine ⟨by rfl, ?_⟩ | refine ⟨?_, ?_⟩))
    · have hi := i.2
      conv => whnf
      (repeat' first | ((first | refine Sq.cons ?_ | refine Dr.cons ?_ | refine Sq.nil ?_ | (refine Dr.nil ?_; refine drawIf (by kernel_rfl) ?_) | refine Vc.region rfl ?_ | refine Vc.draw rfl (by kernel_rfl) ?_ | refine Vc.cond ?_ | refine Vc.block ?_ | refine Vc.ret ?_ | refine Vc.skip ?_ | refine Vc.exit ?_ | refine mkSl (by omega) (by omega) ?_); conv => whnf) | refine Vc.seq ?_)
      refine ifB_d (fun g => ?_) (fun g => ?_)
      all_goals conv => whnf
      · repeat' first | ((first | refine Sq.cons ?_ | refine Dr.cons ?_ | refine Sq.nil ?_ | (refine Dr.nil ?_; refine drawIf (by kernel_rfl) ?_) | refine Vc.region rfl ?_ | refine Vc.draw rfl (by kernel_rfl) ?_ | refine Vc.cond ?_ | refine Vc.block ?_ | refine Vc.ret ?_ | refine Vc.skip ?_ | refine Vc.exit ?_ | refine mkSl (by omega) (by omega) ?_); conv => whnf) | refine Vc.seq ?_ | (refine ifB_i (fun _ => ?_) (fun _ => ?_) <;> conv => whnf) | (refine ixN (enc := eM) default (by omega) ?_; conv => whnf) | (refine ⟨_, co_msg _ _, ?_⟩; conv => whnf) | (refine w64 (by omega) (by omega) ?_; conv => whnf)
        all_goals first
          | exact rB (by symm; simp only [decide_eq_false_iff_not]; intro e; subst e; simp_all)
          | (refine ⟨⟨i.1 + 1, fun j hj => ?_⟩, ?_, ?_⟩
             · by_cases h : j < i.1
               · exact hi j h
               · obtain rfl : j = i.1 := by omega
                 (first | (simp_all; done) | (generalize a.getD i.1 default = x at *; generalize b.getD i.1 default = y at *; clear hi; cases x; cases y; simp_all))
             · simp only; omega
             · repeat' (first | exact True.intro | ((conv => whnf); first | exact True.intro | refine ⟨by rfl, ?_⟩ | refine ⟨?_, ?_⟩)))
      · (repeat' first | ((first | refine Sq.cons ?_ | refine Dr.cons ?_ | refine Sq.nil ?_ | (refine Dr.nil ?_; refine drawIf (by kernel_rfl) ?_) | refine Vc.region rfl ?_ | refine Vc.draw rfl (by kernel_rfl) ?_ | refine Vc.cond ?_ | refine Vc.block ?_ | refine Vc.ret ?_ | refine Vc.skip ?_ | refine Vc.exit ?_ | refine mkSl (by omega) (by omega) ?_); conv => whnf) | refine Vc.seq ?_)
        exact rB (by symm; simp; exact ext_get default (by omega) fun j hj => hi j (by omega))
theorem co_site (a b : Site) : Sem P 58 [(.pure, .agg (aS a)), (.pure, .agg (aS b))] [] (B (decide (a = b))) := by
  refine fn_okR (E := E0) E0_tab E0_ord (fn := Go.Proofs.Tryz.f58) (by kernel_rfl) (by kernel_rfl) (fun hb => ?_)
  conv => whnf
  repeat' first | ((first | refine Sq.cons ?_ | refine Dr.cons ?_ | refine Sq.nil ?_ | (refine Dr.nil ?_; refine drawIf (by kernel_rfl) ?_) | refine Vc.region rfl ?_ | refine Vc.draw rfl (by kernel_rfl) ?_ | refine Vc.cond ?_ | refine Vc.block ?_ | refine Vc.ret ?_ | refine Vc.skip ?_ | refine Vc.exit ?_ | refine mkSl (by omega) (by omega) ?_); conv => whnf) | refine Vc.seq ?_ | (refine ifB_i (fun _ => ?_) (fun _ => ?_) <;> conv => whnf) | (refine ⟨_, co_ints _ _, ?_⟩; conv => whnf) | (refine ⟨_, co_done _ _, ?_⟩; conv => whnf)
  all_goals refine rB ?_
  all_goals (cases a; cases b; first | (simp_all; done) | (simp_all; rfl))
theorem co_sites (a b : List Site) : Sem P 90 [(.pure, .one (sSs a)), (.pure, .one (sSs b))] [] (B (decide (a = b))) := by
  refine fn_okR (E := E0) E0_tab E0_ord (fn := Go.Proofs.Tryz.f90) (by kernel_rfl) (by kernel_rfl) (fun hb => ?_)
  have la : (a.map eS).length = a.length := List.length_map ..
  have lb : (b.map eS).length = b.length := List.length_map ..
  have hb1 : (a.map eS).length ≤ 1125899906842624 := hb.1.1
  conv => whnf
  (repeat' first | ((first | refine Sq.cons ?_ | refine Dr.cons ?_ | refine Sq.nil ?_ | (refine Dr.nil ?_; refine drawIf (by kernel_rfl) ?_) | refine Vc.region rfl ?_ | refine Vc.draw rfl (by kernel_rfl) ?_ | refine Vc.cond ?_ | refine Vc.block ?_ | refine Vc.ret ?_ | refine Vc.skip ?_ | refine Vc.exit ?_ | refine mkSl (by omega) (by omega) ?_); conv => whnf) | refine Vc.seq ?_)
  refine ifB_i (fun h => ?_) (fun h => ?_)
  all_goals conv => whnf
  all_goals (repeat' first | ((first | refine Sq.cons ?_ | refine Dr.cons ?_ | refine Sq.nil ?_ | (refine Dr.nil ?_; refine drawIf (by kernel_rfl) ?_) | refine Vc.region rfl ?_ | refine Vc.draw rfl (by kernel_rfl) ?_ | refine Vc.cond ?_ | refine Vc.block ?_ | refine Vc.ret ?_ | refine Vc.skip ?_ | refine Vc.exit ?_ | refine mkSl (by omega) (by omega) ?_); conv => whnf) | refine Vc.seq ?_)
  · exact rB (by have := ne_of_bne h; symm; simp; intro e; subst e; simp at this)
  · have h := eq_of_bne h
    repeat' first | ((first | refine Sq.cons ?_ | refine Dr.cons ?_ | refine Sq.nil ?_ | (refine Dr.nil ?_; refine drawIf (by kernel_rfl) ?_) | refine Vc.region rfl ?_ | refine Vc.draw rfl (by kernel_rfl) ?_ | refine Vc.cond ?_ | refine Vc.block ?_ | refine Vc.ret ?_ | refine Vc.skip ?_ | refine Vc.exit ?_ | refine mkSl (by omega) (by omega) ?_); conv => whnf) | refine Vc.seq ?_ | (refine ifB_i (fun _ => ?_) (fun _ => ?_) <;> conv => whnf)
    refine Vc.loop { i : Nat // ∀ j, j < i → a.getD j default = b.getD j default } (fun i => updL [0, 1] [(5, I i.1)] []) (fun i => a.length - i.1) ⟨0, by simp⟩ ?_ (fun i => ?_)
    · repeat' (first | exact True.intro | ((conv => whnf); first | exact True.intro | refine ⟨by rfl, ?_⟩ | refine ⟨?_, ?_⟩))
    · have hi := i.2
      conv => whnf
      (repeat' first | ((first | refine Sq.cons ?_ | refine Dr.cons ?_ | refine Sq.nil ?_ | (refine Dr.nil ?_; refine drawIf (by kernel_rfl) ?_) | refine Vc.region rfl ?_ | refine Vc.draw rfl (by kernel_rfl) ?_ | refine Vc.cond ?_ | refine Vc.block ?_ | refine Vc.ret ?_ | refine Vc.skip ?_ | refine Vc.exit ?_ | refine mkSl (by omega) (by omega) ?_); conv => whnf) | refine Vc.seq ?_)
      refine ifB_d (fun g => ?_) (fun g => ?_)
      all_goals conv => whnf
      · repeat' first | ((first | refine Sq.cons ?_ | refine Dr.cons ?_ | refine Sq.nil ?_ | (refine Dr.nil ?_; refine drawIf (by kernel_rfl) ?_) | refine Vc.region rfl ?_ | refine Vc.draw rfl (by kernel_rfl) ?_ | refine Vc.cond ?_ | refine Vc.block ?_ | refine Vc.ret ?_ | refine Vc.skip ?_ | refine Vc.exit ?_ | refine mkSl (by omega) (by omega) ?_); conv => whnf) | refine Vc.seq ?_ | (refine ifB_i (fun _ => ?_) (fun _ => ?_) <;> conv => whnf) | (refine ixN (enc := eS) default (by omega) ?_; conv => whnf) | (refine ⟨_, co_site _ _, ?_⟩; conv => whnf) | (refine w64 (by omega) (by omega) ?_; conv => whnf)
        all_goals first
          | exact rB (by symm; simp only [decide_eq_false_iff_not]; intro e; subst e; simp_all)
          | (refine ⟨⟨i.1 + 1, fun j hj => ?_⟩, ?_, ?_⟩
             · by_cases h : j < i.1
               · exact hi j h
               · obtain rfl : j = i.1 := by omega
                 (first | (simp_all; done) | (generalize a.getD i.1 default = x at *; generalize b.getD i.1 default = y at *; clear hi; cases x; cases y; simp_all))
             · simp only; omega
             · repeat' (first | exact True.intro | ((conv => whnf); first | exact True.intro | refine ⟨by rfl, ?_⟩ | refine ⟨?_, ?_⟩)))
      · (repeat' first | ((first | refine Sq.cons ?_ | refine Dr.cons ?_ | refine Sq.nil ?_ | (refine Dr.nil ?_; refine drawIf (by kernel_rfl) ?_) | refine Vc.region rfl ?_ | refine Vc.draw rfl (by kernel_rfl) ?_ | refine Vc.cond ?_ | refine Vc.block ?_ | refine Vc.ret ?_ | refine Vc.skip ?_ | refine Vc.exit ?_ | refine mkSl (by omega) (by omega) ?_); conv => whnf) | refine Vc.seq ?_)
        exact rB (by symm; simp; exact ext_get default (by omega) fun j hj => hi j (by omega))
theorem co_calls (a b : List Call) : Sem P 39 [(.pure, .one (sCs a)), (.pure, .one (sCs b))] [] (B (decide (a = b))) := by
  refine fn_okR (E := E0) E0_tab E0_ord (fn := Go.Proofs.Tryz.f39) (by kernel_rfl) (by kernel_rfl) (fun hb => ?_)
  have la : (a.map eC).length = a.length := List.length_map ..
  have lb : (b.map eC).length = b.length := List.length_map ..
  have hb1 : (a.map eC).length ≤ 1125899906842624 := hb.1.1
  conv => whnf
  (repeat' first | ((first | refine Sq.cons ?_ | refine Dr.cons ?_ | refine Sq.nil ?_ | (refine Dr.nil ?_; refine drawIf (by kernel_rfl) ?_) | refine Vc.region rfl ?_ | refine Vc.draw rfl (by kernel_rfl) ?_ | refine Vc.cond ?_ | refine Vc.block ?_ | refine Vc.ret ?_ | refine Vc.skip ?_ | refine Vc.exit ?_ | refine mkSl (by omega) (by omega) ?_); conv => whnf) | refine Vc.seq ?_)
  refine ifB_i (fun h => ?_) (fun h => ?_)
  all_goals conv => whnf
  all_goals (repeat' first | ((first | refine Sq.cons ?_ | refine Dr.cons ?_ | refine Sq.nil ?_ | (refine Dr.nil ?_; refine drawIf (by kernel_rfl) ?_) | refine Vc.region rfl ?_ | refine Vc.draw rfl (by kernel_rfl) ?_ | refine Vc.cond ?_ | refine Vc.block ?_ | refine Vc.ret ?_ | refine Vc.skip ?_ | refine Vc.exit ?_ | refine mkSl (by omega) (by omega) ?_); conv => whnf) | refine Vc.seq ?_)
  · exact rB (by have := ne_of_bne h; symm; simp; intro e; subst e; simp at this)
  · have h := eq_of_bne h
    repeat' first | ((first | refine Sq.cons ?_ | refine Dr.cons ?_ | refine Sq.nil ?_ | (refine Dr.nil ?_; refine drawIf (by kernel_rfl) ?_) | refine Vc.region rfl ?_ | refine Vc.draw rfl (by kernel_rfl) ?_ | refine Vc.cond ?_ | refine Vc.block ?_ | refine Vc.ret ?_ | refine Vc.skip ?_ | refine Vc.exit ?_ | refine mkSl (by omega) (by omega) ?_); conv => whnf) | refine Vc.seq ?_ | (refine ifB_i (fun _ => ?_) (fun _ => ?_) <;> conv => whnf)
    refine Vc.loop { i : Nat // ∀ j, j < i → a.getD j default = b.getD j default } (fun i => updL [0, 1] [(5, I i.1)] []) (fun i => a.length - i.1) ⟨0, by simp⟩ ?_ (fun i => ?_)
    · repeat' (first | exact True.intro | ((conv => whnf); first | exact True.intro | refine ⟨by rfl, ?_⟩ | refine ⟨?_, ?_⟩))
    · have hi := i.2
      conv => whnf
      (repeat' first | ((first | refine Sq.cons ?_ | refine Dr.cons ?_ | refine Sq.nil ?_ | (refine Dr.nil ?_; refine drawIf (by kernel_rfl) ?_) | refine Vc.region rfl ?_ | refine Vc.draw rfl (by kernel_rfl) ?_ | refine Vc.cond ?_ | refine Vc.block ?_ | refine Vc.ret ?_ | refine Vc.skip ?_ | refine Vc.exit ?_ | refine mkSl (by omega) (by omega) ?_); conv => whnf) | refine Vc.seq ?_)
      refine ifB_d (fun g => ?_) (fun g => ?_)
      all_goals conv => whnf
      · repeat' first | ((first | refine Sq.cons ?_ | refine Dr.cons ?_ | refine Sq.nil ?_ | (refine Dr.nil ?_; refine drawIf (by kernel_rfl) ?_) | refine Vc.region rfl ?_ | refine Vc.draw rfl (by kernel_rfl) ?_ | refine Vc.cond ?_ | refine Vc.block ?_ | refine Vc.ret ?_ | refine Vc.skip ?_ | refine Vc.exit ?_ | refine mkSl (by omega) (by omega) ?_); conv => whnf) | refine Vc.seq ?_ | (refine ifB_i (fun _ => ?_) (fun _ => ?_) <;> conv => whnf) | (refine ixN (enc := eC) default (by omega) ?_; conv => whnf) | (refine ⟨_, co_call _ _, ?_⟩; conv => whnf) | (refine w64 (by omega) (by omega) ?_; conv => whnf)
        all_goals first
          | exact rB (by symm; simp only [decide_eq_false_iff_not]; intro e; subst e; simp_all)
          | (refine ⟨⟨i.1 + 1, fun j hj => ?_⟩, ?_, ?_⟩
             · by_cases h : j < i.1
               · exact hi j h
               · obtain rfl : j = i.1 := by omega
                 (first | (simp_all; done) | (generalize a.getD i.1 default = x at *; generalize b.getD i.1 default = y at *; clear hi; cases x; cases y; simp_all))
             · simp only; omega
             · repeat' (first | exact True.intro | ((conv => whnf); first | exact True.intro | refine ⟨by rfl, ?_⟩ | refine ⟨?_, ?_⟩)))
      · (repeat' first | ((first | refine Sq.cons ?_ | refine Dr.cons ?_ | refine Sq.nil ?_ | (refine Dr.nil ?_; refine drawIf (by kernel_rfl) ?_) | refine Vc.region rfl ?_ | refine Vc.draw rfl (by kernel_rfl) ?_ | refine Vc.cond ?_ | refine Vc.block ?_ | refine Vc.ret ?_ | refine Vc.skip ?_ | refine Vc.exit ?_ | refine mkSl (by omega) (by omega) ?_); conv => whnf) | refine Vc.seq ?_)
        exact rB (by symm; simp; exact ext_get default (by omega) fun j hj => hi j (by omega))
theorem co_log (a b : List LogD) : Sem P 92 [(.pure, .one (sOs a)), (.pure, .one (sOs b))] [] (B (decide (a = b))) := by
  refine fn_okR (E := E0) E0_tab E0_ord (fn := Go.Proofs.Tryz.f92) (by kernel_rfl) (by kernel_rfl) (fun hb => ?_)
  have la : (a.map eO).length = a.length := List.length_map ..
  have lb : (b.map eO).length = b.length := List.length_map ..
  have hb1 : (a.map eO).length ≤ 1125899906842624 := hb.1.1
  conv => whnf
  (repeat' first | ((first | refine Sq.cons ?_ | refine Dr.cons ?_ | refine Sq.nil ?_ | (refine Dr.nil ?_; refine drawIf (by kernel_rfl) ?_) | refine Vc.region rfl ?_ | refine Vc.draw rfl (by kernel_rfl) ?_ | refine Vc.cond ?_ | refine Vc.block ?_ | refine Vc.ret ?_ | refine Vc.skip ?_ | refine Vc.exit ?_ | refine mkSl (by omega) (by omega) ?_); conv => whnf) | refine Vc.seq ?_)
  refine ifB_i (fun h => ?_) (fun h => ?_)
  all_goals conv => whnf
  all_goals (repeat' first | ((first | refine Sq.cons ?_ | refine Dr.cons ?_ | refine Sq.nil ?_ | (refine Dr.nil ?_; refine drawIf (by kernel_rfl) ?_) | refine Vc.region rfl ?_ | refine Vc.draw rfl (by kernel_rfl) ?_ | refine Vc.cond ?_ | refine Vc.block ?_ | refine Vc.ret ?_ | refine Vc.skip ?_ | refine Vc.exit ?_ | refine mkSl (by omega) (by omega) ?_); conv => whnf) | refine Vc.seq ?_)
  · exact rB (by have := ne_of_bne h; symm; simp; intro e; subst e; simp at this)
  · have h := eq_of_bne h
    repeat' first | ((first | refine Sq.cons ?_ | refine Dr.cons ?_ | refine Sq.nil ?_ | (refine Dr.nil ?_; refine drawIf (by kernel_rfl) ?_) | refine Vc.region rfl ?_ | refine Vc.draw rfl (by kernel_rfl) ?_ | refine Vc.cond ?_ | refine Vc.block ?_ | refine Vc.ret ?_ | refine Vc.skip ?_ | refine Vc.exit ?_ | refine mkSl (by omega) (by omega) ?_); conv => whnf) | refine Vc.seq ?_ | (refine ifB_i (fun _ => ?_) (fun _ => ?_) <;> conv => whnf)
    refine Vc.loop { i : Nat // ∀ j, j < i → a.getD j default = b.getD j default } (fun i => updL [0, 1] [(5, I i.1)] []) (fun i => a.length - i.1) ⟨0, by simp⟩ ?_ (fun i => ?_)
    · repeat' (first | exact True.intro | ((conv => whnf); first | exact True.intro | refine ⟨by rfl, ?_⟩ | refine ⟨?_, ?_⟩))
    · have hi := i.2
      conv => whnf
      (repeat' first | ((first | refine Sq.cons ?_ | refine Dr.cons ?_ | refine Sq.nil ?_ | (refine Dr.nil ?_; refine drawIf (by kernel_rfl) ?_) | refine Vc.region rfl ?_ | refine Vc.draw rfl (by kernel_rfl) ?_ | refine Vc.cond ?_ | refine Vc.block ?_ | refine Vc.ret ?_ | refine Vc.skip ?_ | refine Vc.exit ?_ | refine mkSl (by omega) (by omega) ?_); conv => whnf) | refine Vc.seq ?_)
      refine ifB_d (fun g => ?_) (fun g => ?_)
      all_goals conv => whnf
      · repeat' first | ((first | refine Sq.cons ?_ | refine Dr.cons ?_ | refine Sq.nil ?_ | (refine Dr.nil ?_; refine drawIf (by kernel_rfl) ?_) | refine Vc.region rfl ?_ | refine Vc.draw rfl (by kernel_rfl) ?_ | refine Vc.cond ?_ | refine Vc.block ?_ | refine Vc.ret ?_ | refine Vc.skip ?_ | refine Vc.exit ?_ | refine mkSl (by omega) (by omega) ?_); conv => whnf) | refine Vc.seq ?_ | (refine ifB_i (fun _ => ?_) (fun _ => ?_) <;> conv => whnf) | (refine ixN (enc := eO) default (by omega) ?_; conv => whnf) | (refine ⟨_, co_call (a.getD i.1 default).Call (b.getD i.1 default).Call, ?_⟩; conv => whnf) | (refine ⟨_, co_res (a.getD i.1 default).Res (b.getD i.1 default).Res, ?_⟩; conv => whnf) | (refine w64 (by omega) (by omega) ?_; conv => whnf)
        all_goals first
          | exact rB (by symm; simp only [decide_eq_false_iff_not]; intro e; subst e; simp_all)
          | (refine ⟨⟨i.1 + 1, fun j hj => ?_⟩, ?_, ?_⟩
             · by_cases h : j < i.1
               · exact hi j h
               · obtain rfl : j = i.1 := by omega
                 (first | (simp_all; done) | (generalize a.getD i.1 default = x at *; generalize b.getD i.1 default = y at *; clear hi; cases x; cases y; simp_all))
             · simp only; omega
             · repeat' (first | exact True.intro | ((conv => whnf); first | exact True.intro | refine ⟨by rfl, ?_⟩ | refine ⟨?_, ?_⟩)))
      · (repeat' first | ((first | refine Sq.cons ?_ | refine Dr.cons ?_ | refine Sq.nil ?_ | (refine Dr.nil ?_; refine drawIf (by kernel_rfl) ?_) | refine Vc.region rfl ?_ | refine Vc.draw rfl (by kernel_rfl) ?_ | refine Vc.cond ?_ | refine Vc.block ?_ | refine Vc.ret ?_ | refine Vc.skip ?_ | refine Vc.exit ?_ | refine mkSl (by omega) (by omega) ?_); conv => whnf) | refine Vc.seq ?_)
        exact rB (by symm; simp; exact ext_get default (by omega) fun j hj => hi j (by omega))
theorem co_clients (a b : List Client) : Sem P 91 [(.pure, .one (sXs a)), (.pure, .one (sXs b))] [] (B (decide (a = b))) := by
  refine fn_okR (E := E0) E0_tab E0_ord (fn := Go.Proofs.Tryz.f91) (by kernel_rfl) (by kernel_rfl) (fun hb => ?_)
  have la : (a.map eX).length = a.length := List.length_map ..
  have lb : (b.map eX).length = b.length := List.length_map ..
  have hb1 : (a.map eX).length ≤ 1125899906842624 := hb.1.1
  conv => whnf
  (repeat' first | ((first | refine Sq.cons ?_ | refine Dr.cons ?_ | refine Sq.nil ?_ | (refine Dr.nil ?_; refine drawIf (by kernel_rfl) ?_) | refine Vc.region rfl ?_ | refine Vc.draw rfl (by kernel_rfl) ?_ | refine Vc.cond ?_ | refine Vc.block ?_ | refine Vc.ret ?_ | refine Vc.skip ?_ | refine Vc.exit ?_ | refine mkSl (by omega) (by omega) ?_); conv => whnf) | refine Vc.seq ?_)
  refine ifB_i (fun h => ?_) (fun h => ?_)
  all_goals conv => whnf
  all_goals (repeat' first | ((first | refine Sq.cons ?_ | refine Dr.cons ?_ | refine Sq.nil ?_ | (refine Dr.nil ?_; refine drawIf (by kernel_rfl) ?_) | refine Vc.region rfl ?_ | refine Vc.draw rfl (by kernel_rfl) ?_ | refine Vc.cond ?_ | refine Vc.block ?_ | refine Vc.ret ?_ | refine Vc.skip ?_ | refine Vc.exit ?_ | refine mkSl (by omega) (by omega) ?_); conv => whnf) | refine Vc.seq ?_)
  · exact rB (by have := ne_of_bne h; symm; simp; intro e; subst e; simp at this)
  · have h := eq_of_bne h
    repeat' first | ((first | refine Sq.cons ?_ | refine Dr.cons ?_ | refine Sq.nil ?_ | (refine Dr.nil ?_; refine drawIf (by kernel_rfl) ?_) | refine Vc.region rfl ?_ | refine Vc.draw rfl (by kernel_rfl) ?_ | refine Vc.cond ?_ | refine Vc.block ?_ | refine Vc.ret ?_ | refine Vc.skip ?_ | refine Vc.exit ?_ | refine mkSl (by omega) (by omega) ?_); conv => whnf) | refine Vc.seq ?_ | (refine ifB_i (fun _ => ?_) (fun _ => ?_) <;> conv => whnf)
    refine Vc.loop { i : Nat // ∀ j, j < i → a.getD j default = b.getD j default } (fun i => updL [0, 1] [(5, I i.1)] []) (fun i => a.length - i.1) ⟨0, by simp⟩ ?_ (fun i => ?_)
    · repeat' (first | exact True.intro | ((conv => whnf); first | exact True.intro | refine ⟨by rfl, ?_⟩ | refine ⟨?_, ?_⟩))
    · have hi := i.2
      conv => whnf
      (repeat' first | ((first | refine Sq.cons ?_ | refine Dr.cons ?_ | refine Sq.nil ?_ | (refine Dr.nil ?_; refine drawIf (by kernel_rfl) ?_) | refine Vc.region rfl ?_ | refine Vc.draw rfl (by kernel_rfl) ?_ | refine Vc.cond ?_ | refine Vc.block ?_ | refine Vc.ret ?_ | refine Vc.skip ?_ | refine Vc.exit ?_ | refine mkSl (by omega) (by omega) ?_); conv => whnf) | refine Vc.seq ?_)
      refine ifB_d (fun g => ?_) (fun g => ?_)
      all_goals conv => whnf
      · repeat' first | ((first | refine Sq.cons ?_ | refine Dr.cons ?_ | refine Sq.nil ?_ | (refine Dr.nil ?_; refine drawIf (by kernel_rfl) ?_) | refine Vc.region rfl ?_ | refine Vc.draw rfl (by kernel_rfl) ?_ | refine Vc.cond ?_ | refine Vc.block ?_ | refine Vc.ret ?_ | refine Vc.skip ?_ | refine Vc.exit ?_ | refine mkSl (by omega) (by omega) ?_); conv => whnf) | refine Vc.seq ?_ | (refine ifB_i (fun _ => ?_) (fun _ => ?_) <;> conv => whnf) | (refine ixN (enc := eX) default (by omega) ?_; conv => whnf) | (refine ⟨_, co_call (a.getD i.1 default).Call (b.getD i.1 default).Call, ?_⟩; conv => whnf) | (refine ⟨_, co_res (a.getD i.1 default).Res (b.getD i.1 default).Res, ?_⟩; conv => whnf) | (refine w64 (by omega) (by omega) ?_; conv => whnf)
        all_goals first
          | exact rB (by symm; simp only [decide_eq_false_iff_not]; intro e; subst e; simp_all)
          | (refine ⟨⟨i.1 + 1, fun j hj => ?_⟩, ?_, ?_⟩
             · by_cases h : j < i.1
               · exact hi j h
               · obtain rfl : j = i.1 := by omega
                 (first | (simp_all; done) | (generalize a.getD i.1 default = x at *; generalize b.getD i.1 default = y at *; clear hi; cases x; cases y; simp_all))
             · simp only; omega
             · repeat' (first | exact True.intro | ((conv => whnf); first | exact True.intro | refine ⟨by rfl, ?_⟩ | refine ⟨?_, ?_⟩)))
      · (repeat' first | ((first | refine Sq.cons ?_ | refine Dr.cons ?_ | refine Sq.nil ?_ | (refine Dr.nil ?_; refine drawIf (by kernel_rfl) ?_) | refine Vc.region rfl ?_ | refine Vc.draw rfl (by kernel_rfl) ?_ | refine Vc.cond ?_ | refine Vc.block ?_ | refine Vc.ret ?_ | refine Vc.skip ?_ | refine Vc.exit ?_ | refine mkSl (by omega) (by omega) ?_); conv => whnf) | refine Vc.seq ?_)
        exact rB (by symm; simp; exact ext_get default (by omega) fun j hj => hi j (by omega))
end Cc
end
section
namespace Cc
open Go Go.AM
set_option maxRecDepth 100000
set_option maxHeartbeats 4000000
theorem len_bne {m n : Nat} (h : ((m : Int) != (n : Int)) = false) : m = n := by have := eq_of_bne h; omega
theorem co_plan (a b : Plan) : Sem P 89 [(.pure, .agg (aPl a)), (.pure, .agg (aPl b))] [] (B (decide (a = b))) := by
  refine fn_okR (E := E0) E0_tab E0_ord (fn := Go.Proofs.Tryz.f89) (by kernel_rfl) (by kernel_rfl) (fun hb => ?_)
  have la : (a.Acts.map eA).length = a.Acts.length := List.length_map ..
  have lb : (b.Acts.map eA).length = b.Acts.length := List.length_map ..
  have hb1 : (a.Acts.map eA).length ≤ 1125899906842624 := (hb.1 _ (List.mem_cons_of_mem _ (List.mem_cons_self ..))).1
  conv => whnf
  repeat' first | ((first | refine Sq.cons ?_ | refine Dr.cons ?_ | refine Sq.nil ?_ | (refine Dr.nil ?_; refine drawIf (by kernel_rfl) ?_) | refine Vc.region rfl ?_ | refine Vc.draw rfl (by kernel_rfl) ?_ | refine Vc.cond ?_ | refine Vc.block ?_ | refine Vc.ret ?_ | refine Vc.skip ?_ | refine Vc.exit ?_ | refine mkSl (by omega) (by omega) ?_); conv => whnf) | refine Vc.seq ?_ | (refine ifB_i (fun _ => ?_) (fun _ => ?_) <;> conv => whnf) | (refine ⟨_, co_ints _ _, ?_⟩; conv => whnf)
  all_goals first
    | exact rB (by symm; simp only [decide_eq_false_iff_not]; intro e; subst e; simp_all)
    | skip
  rename_i h1 h2 h3 h4
  refine Vc.loop { i : Nat // ∀ j, j < i → a.Acts.getD j default = b.Acts.getD j default } (fun i => updL [2, 3] [(5, I i.1)] []) (fun i => a.Acts.length - i.1) ⟨0, by simp⟩ ?_ (fun i => ?_)
  · repeat' (first | exact True.intro | ((conv => whnf); first | exact True.intro | refine ⟨by rfl, ?_⟩ | refine ⟨?_, ?_⟩))
  · have hi := i.2
    have h2' : (a.Acts.map eA).length = (b.Acts.map eA).length := len_bne h2
    conv => whnf
    (repeat' first | ((first | refine Sq.cons ?_ | refine Dr.cons ?_ | refine Sq.nil ?_ | (refine Dr.nil ?_; refine drawIf (by kernel_rfl) ?_) | refine Vc.region rfl ?_ | refine Vc.draw rfl (by kernel_rfl) ?_ | refine Vc.cond ?_ | refine Vc.block ?_ | refine Vc.ret ?_ | refine Vc.skip ?_ | refine Vc.exit ?_ | refine mkSl (by omega) (by omega) ?_); conv => whnf) | refine Vc.seq ?_)
    refine ifB_d (fun g => ?_) (fun g => ?_)
    all_goals conv => whnf
    · repeat' first | ((first | refine Sq.cons ?_ | refine Dr.cons ?_ | refine Sq.nil ?_ | (refine Dr.nil ?_; refine drawIf (by kernel_rfl) ?_) | refine Vc.region rfl ?_ | refine Vc.draw rfl (by kernel_rfl) ?_ | refine Vc.cond ?_ | refine Vc.block ?_ | refine Vc.ret ?_ | refine Vc.skip ?_ | refine Vc.exit ?_ | refine mkSl (by omega) (by omega) ?_); conv => whnf) | refine Vc.seq ?_ | (refine ifB_i (fun _ => ?_) (fun _ => ?_) <;> conv => whnf) | (refine ixN (enc := eA) default (by omega) ?_; conv => whnf) | (refine ⟨_, co_act _ _, ?_⟩; conv => whnf) | (refine w64 (by omega) (by omega) ?_; conv => whnf)
      all_goals first
          | exact rB (by symm; simp only [decide_eq_false_iff_not]; intro e; subst e; simp_all)
          | (refine ⟨⟨i.1 + 1, fun j hj => ?_⟩, ?_, ?_⟩
             · by_cases h : j < i.1
               · exact hi j h
               · obtain rfl : j = i.1 := by omega
                 simp_all
             · simp only; omega
             · repeat' (first | exact True.intro | ((conv => whnf); first | exact True.intro | refine ⟨by rfl, ?_⟩ | refine ⟨?_, ?_⟩)))
    · (repeat' first | ((first | refine Sq.cons ?_ | refine Dr.cons ?_ | refine Sq.nil ?_ | (refine Dr.nil ?_; refine drawIf (by kernel_rfl) ?_) | refine Vc.region rfl ?_ | refine Vc.draw rfl (by kernel_rfl) ?_ | refine Vc.cond ?_ | refine Vc.block ?_ | refine Vc.ret ?_ | refine Vc.skip ?_ | refine Vc.exit ?_ | refine mkSl (by omega) (by omega) ?_); conv => whnf) | refine Vc.seq ?_)
      exact rB (by
        have e : a.Acts = b.Acts := ext_get default (by omega) fun j hj => hi j (by omega)
        cases a; cases b; simp_all)
theorem co_clerk (a b : Clerk) : Sem P 38 [(.pure, .agg (aK a)), (.pure, .agg (aK b))] [] (B (decide (a = b))) := by
  refine fn_okR (E := E0) E0_tab E0_ord (fn := Go.Proofs.Tryz.f38) (by kernel_rfl) (by kernel_rfl) (fun hb => ?_)
  have la : (a.Got.map eG).length = a.Got.length := List.length_map ..
  have lb : (b.Got.map eG).length = b.Got.length := List.length_map ..
  have hb1 : (a.Got.map eG).length ≤ 1125899906842624 := (hb.1 (sGs a.Got) (by simp)).1
  conv => whnf
  repeat' first | ((first | refine Sq.cons ?_ | refine Dr.cons ?_ | refine Sq.nil ?_ | (refine Dr.nil ?_; refine drawIf (by kernel_rfl) ?_) | refine Vc.region rfl ?_ | refine Vc.draw rfl (by kernel_rfl) ?_ | refine Vc.cond ?_ | refine Vc.block ?_ | refine Vc.ret ?_ | refine Vc.skip ?_ | refine Vc.exit ?_ | refine mkSl (by omega) (by omega) ?_); conv => whnf) | refine Vc.seq ?_ | (refine ifB_i (fun _ => ?_) (fun _ => ?_) <;> conv => whnf) | (refine ⟨_, co_ints _ _, ?_⟩; conv => whnf) | (refine ⟨_, co_done _ _, ?_⟩; conv => whnf) | (refine ⟨_, co_calls _ _, ?_⟩; conv => whnf)
  all_goals first
    | exact rB (by symm; simp only [decide_eq_false_iff_not]; intro e; subst e; simp_all)
    | skip
  rename_i h1 h2 h3 h4 h5 h6
  refine Vc.loop { i : Nat // ∀ j, j < i → a.Got.getD j default = b.Got.getD j default } (fun i => updL [2, 3] [(5, I i.1)] []) (fun i => a.Got.length - i.1) ⟨0, by simp⟩ ?_ (fun i => ?_)
  · repeat' (first | exact True.intro | ((conv => whnf); first | exact True.intro | refine ⟨by rfl, ?_⟩ | refine ⟨?_, ?_⟩))
  · have hi := i.2
    have h2' : (a.Got.map eG).length = (b.Got.map eG).length := len_bne h6
    conv => whnf
    (repeat' first | ((first | refine Sq.cons ?_ | refine Dr.cons ?_ | refine Sq.nil ?_ | (refine Dr.nil ?_; refine drawIf (by kernel_rfl) ?_) | refine Vc.region rfl ?_ | refine Vc.draw rfl (by kernel_rfl) ?_ | refine Vc.cond ?_ | refine Vc.block ?_ | refine Vc.ret ?_ | refine Vc.skip ?_ | refine Vc.exit ?_ | refine mkSl (by omega) (by omega) ?_); conv => whnf) | refine Vc.seq ?_)
    refine ifB_d (fun g => ?_) (fun g => ?_)
    all_goals conv => whnf
    · repeat' first | ((first | refine Sq.cons ?_ | refine Dr.cons ?_ | refine Sq.nil ?_ | (refine Dr.nil ?_; refine drawIf (by kernel_rfl) ?_) | refine Vc.region rfl ?_ | refine Vc.draw rfl (by kernel_rfl) ?_ | refine Vc.cond ?_ | refine Vc.block ?_ | refine Vc.ret ?_ | refine Vc.skip ?_ | refine Vc.exit ?_ | refine mkSl (by omega) (by omega) ?_); conv => whnf) | refine Vc.seq ?_ | (refine ifB_i (fun _ => ?_) (fun _ => ?_) <;> conv => whnf) | (refine ixN (enc := eG) default (by omega) ?_; conv => whnf) | (refine ⟨_, co_ints _ _, ?_⟩; conv => whnf) | (refine w64 (by omega) (by omega) ?_; conv => whnf)
      all_goals first
          | exact rB (by symm; simp only [decide_eq_false_iff_not]; intro e; subst e; simp_all)
          | (refine ⟨⟨i.1 + 1, fun j hj => ?_⟩, ?_, ?_⟩
             · by_cases h : j < i.1
               · exact hi j h
               · obtain rfl : j = i.1 := by omega
                 generalize a.Got.getD i.1 default = x at *; generalize b.Got.getD i.1 default = y at *; clear hi; cases x; cases y; simp_all
             · simp only; omega
             · repeat' (first | exact True.intro | ((conv => whnf); first | exact True.intro | refine ⟨by rfl, ?_⟩ | refine ⟨?_, ?_⟩)))
    · (repeat' first | ((first | refine Sq.cons ?_ | refine Dr.cons ?_ | refine Sq.nil ?_ | (refine Dr.nil ?_; refine drawIf (by kernel_rfl) ?_) | refine Vc.region rfl ?_ | refine Vc.draw rfl (by kernel_rfl) ?_ | refine Vc.cond ?_ | refine Vc.block ?_ | refine Vc.ret ?_ | refine Vc.skip ?_ | refine Vc.exit ?_ | refine mkSl (by omega) (by omega) ?_); conv => whnf) | refine Vc.seq ?_)
      exact rB (by
        have e : a.Got = b.Got := ext_get default (by omega) fun j hj => hi j (by omega)
        cases a; cases b; simp_all)
theorem co_world (a b : World) : Sem P 22 [(.pure, .agg (aWd a)), (.pure, .agg (aWd b))] [] (B (decide (a = b))) := by
  refine fn_okR (E := E0) E0_tab E0_ord (fn := Go.Proofs.Tryz.f22) (by kernel_rfl) (by kernel_rfl) (fun hb => ?_)
  conv => whnf
  repeat' first | ((first | refine Sq.cons ?_ | refine Dr.cons ?_ | refine Sq.nil ?_ | (refine Dr.nil ?_; refine drawIf (by kernel_rfl) ?_) | refine Vc.region rfl ?_ | refine Vc.draw rfl (by kernel_rfl) ?_ | refine Vc.cond ?_ | refine Vc.block ?_ | refine Vc.ret ?_ | refine Vc.skip ?_ | refine Vc.exit ?_ | refine mkSl (by omega) (by omega) ?_); conv => whnf) | refine Vc.seq ?_ | (refine ifB_i (fun _ => ?_) (fun _ => ?_) <;> conv => whnf) | (refine ⟨_, co_plan a.Plan b.Plan, ?_⟩; conv => whnf) | (refine ⟨_, co_sites _ _, ?_⟩; conv => whnf) | (refine ⟨_, co_clerk a.Clerk b.Clerk, ?_⟩; conv => whnf) | (refine ⟨_, co_clients _ _, ?_⟩; conv => whnf) | (refine ⟨_, co_net _ _, ?_⟩; conv => whnf) | (refine ⟨_, co_log _ _, ?_⟩; conv => whnf)
  all_goals refine rB ?_
  all_goals (cases a; cases b; first | (simp_all; done) | (simp_all; rfl))
end Cc
end
section
namespace Cc
open Go Go.AM
set_option maxRecDepth 100000
set_option maxHeartbeats 4000000
theorem app_take {α β : Type} [Inhabited α] {l : List α} {g : α → β} {i : Nat} (h : i < l.length) : (l.take i).map g ++ [g (l.getD i default)] = (l.take (i + 1)).map g := by
  rw [List.take_add_one, List.map_append, List.getElem?_eq_getElem h, List.getD_eq_getElem?_getD, List.getElem?_eq_getElem h]
  rfl
theorem gd_mem {α : Type} [Inhabited α] {l : List α} {i : Nat} (h : i < l.length) : l.getD i default ∈ l := by
  rw [List.getD_eq_getElem?_getD, List.getElem?_eq_getElem h]; exact List.getElem_mem h
theorem impl_pot (v : Nat) (hv : v < 3) : Sem P 288 [(.pure, I v)] [] (.agg (aF (Form.pot v))) := by
  match v, hv with
  | 0, _ | 1, _ | 2, _ =>
    refine fn_okR (E := { E0 with keep := [4000] }) E0_tab E0_ord (fn := Go.Proofs.Tryz.f288) (by kernel_rfl) (by kernel_rfl) (fun hb => ?_)
    conv => whnf
    repeat' first | ((first | refine Sq.cons ?_ | refine Dr.cons ?_ | refine Sq.nil ?_ | (refine Dr.nil ?_; refine drawIf (by kernel_rfl) ?_) | refine Vc.region rfl ?_ | refine Vc.draw rfl (by kernel_rfl) ?_ | refine Vc.cond ?_ | refine Vc.block ?_ | refine Vc.ret ?_ | refine Vc.skip ?_ | refine Vc.exit ?_ | refine mkSl (by omega) (by omega) ?_); conv => whnf) | refine Vc.seq ?_ | (refine ifB_i (fun _ => ?_) (fun _ => ?_) <;> conv => whnf) | (refine ⟨_, impl_in _ _ _, ?_⟩; conv => whnf) | (refine ⟨_, impl_zero, ?_⟩; conv => whnf) | (refine ioK (Nat.le_of_ble_eq_true rfl) ?_; conv => whnf) | (refine rwC rfl ?_; conv => whnf)
    all_goals first | (rename_i h; exact absurd h (by decide)) | exact ⟨rfl, rfl⟩
theorem form_copied (f : Form) (h : f.C.length ≤ 100000 ∧ f.D.length ≤ 100000) : Sem P 190 [(.pure, .agg (aF f))] [] (.agg (aF f)) := by
  refine fn_okR (E := { E0 with keep := [2002, 2005] }) E0_tab E0_ord (fn := Go.Proofs.Tryz.f190) (by kernel_rfl) (by kernel_rfl) (fun hb => ?_)
  conv => whnf
  repeat' first | ((first | refine Sq.cons ?_ | refine Dr.cons ?_ | refine Sq.nil ?_ | (refine Dr.nil ?_; refine drawIf (by kernel_rfl) ?_) | refine Vc.region rfl ?_ | refine Vc.draw rfl (by kernel_rfl) ?_ | refine Vc.cond ?_ | refine Vc.block ?_ | refine Vc.ret ?_ | refine Vc.skip ?_ | refine Vc.exit ?_ | refine mkSl (by omega) (by omega) ?_); conv => whnf) | refine Vc.seq ?_ | (refine ifB_i (fun _ => ?_) (fun _ => ?_) <;> conv => whnf) | (refine ⟨_, ints_clone f.C h.1, ?_⟩; conv => whnf) | (refine ⟨_, ints_clone f.D h.2, ?_⟩; conv => whnf)
  exact ⟨rfl, rfl⟩
def shs (l : List Form) : Prop := l.length ≤ 100 ∧ ∀ f ∈ l, f.sh
theorem sh_short {f : Form} (h : f.sh) : f.C.length ≤ 100000 ∧ f.D.length ≤ 100000 := by obtain ⟨h1, h2⟩ := h; omega
theorem impl_forms (l : List Form) (hl : shs l) : Sem P 373 [(.pure, .one (sFs l))] [] (.one (sFs l)) := by
  have hl1 := hl.1
  refine fn_okR (E := E0) E0_tab E0_ord (fn := Go.Proofs.Tryz.f373) (by kernel_rfl) (by kernel_rfl) (fun hb => ?_)
  conv => whnf
  (repeat' first | ((first | refine Sq.cons ?_ | refine Dr.cons ?_ | refine Sq.nil ?_ | (refine Dr.nil ?_; refine drawIf (by kernel_rfl) ?_) | refine Vc.region rfl ?_ | refine Vc.draw rfl (by kernel_rfl) ?_ | refine Vc.cond ?_ | refine Vc.block ?_ | refine Vc.ret ?_ | refine Vc.skip ?_ | refine Vc.exit ?_ | refine mkSl (by omega) (by omega) ?_); conv => whnf) | refine Vc.seq ?_)
  refine Vc.loop1 (fun (i : Nat) => i ≤ l.length) (fun i => updL [2, 6, 7, 18] [(8, I i), (3, .one (.ref 128000))] [(128000, .arr 129 ((l.take i).map eF) false)]) (fun i => l.length - i) 0 (Nat.zero_le _) ?_ (fun i hi => ?_)
  · repeat' (first | exact True.intro | ((conv => whnf); first | exact True.intro | refine ⟨by rfl, ?_⟩ | refine ⟨by first | omega | (show (_ : Int) = _; first | omega | (dsimp only; omega)), ?_⟩ | refine ⟨?_, ?_⟩))
  · have hlm : (l.map eF).length = l.length := List.length_map ..
    have hlo : ((l.take i).map eF).length = i := by rw [List.length_map, List.length_take]; omega
    conv => whnf
    (repeat' first | ((first | refine Sq.cons ?_ | refine Dr.cons ?_ | refine Sq.nil ?_ | (refine Dr.nil ?_; refine drawIf (by kernel_rfl) ?_) | refine Vc.region rfl ?_ | refine Vc.draw rfl (by kernel_rfl) ?_ | refine Vc.cond ?_ | refine Vc.block ?_ | refine Vc.ret ?_ | refine Vc.skip ?_ | refine Vc.exit ?_ | refine mkSl (by omega) (by omega) ?_); conv => whnf) | refine Vc.seq ?_)
    refine ifB_d (fun g => ?_) (fun g => ?_)
    all_goals conv => whnf
    · repeat' first | ((first | refine Sq.cons ?_ | refine Dr.cons ?_ | refine Sq.nil ?_ | (refine Dr.nil ?_; refine drawIf (by kernel_rfl) ?_) | refine Vc.region rfl ?_ | refine Vc.draw rfl (by kernel_rfl) ?_ | refine Vc.cond ?_ | refine Vc.block ?_ | refine Vc.ret ?_ | refine Vc.skip ?_ | refine Vc.exit ?_ | refine mkSl (by omega) (by omega) ?_); conv => whnf) | refine Vc.seq ?_ | (refine ifB_i (fun _ => ?_) (fun _ => ?_) <;> conv => whnf) | (refine ixN (enc := eF) default (by omega) ?_; conv => whnf) | (refine ⟨_, form_copied (l.getD i default) (sh_short (hl.2 _ (gd_mem (by omega)))), ?_⟩; conv => whnf) | (refine apN (by first | omega | (simp; omega)) ?_; conv => whnf) | (refine w64 (by first | omega | (dsimp only; omega)) (by first | omega | (dsimp only; omega)) ?_; conv => whnf)
      refine ⟨i + 1, by omega, by simp only; omega, ?_⟩
      repeat' (first | exact True.intro | ((conv => whnf); first | exact True.intro | refine ⟨by rfl, ?_⟩ | refine ⟨by first | omega | (show (_ : Int) = _; first | omega | (dsimp only; omega)) | exact app_take (by omega), ?_⟩ | refine ⟨?_, ?_⟩))
    · have hend : l.take i = l := List.take_of_length_le (by omega)
      (repeat' first | ((first | refine Sq.cons ?_ | refine Dr.cons ?_ | refine Sq.nil ?_ | (refine Dr.nil ?_; refine drawIf (by kernel_rfl) ?_) | refine Vc.region rfl ?_ | refine Vc.draw rfl (by kernel_rfl) ?_ | refine Vc.cond ?_ | refine Vc.block ?_ | refine Vc.ret ?_ | refine Vc.skip ?_ | refine Vc.exit ?_ | refine mkSl (by omega) (by omega) ?_); conv => whnf) | refine Vc.seq ?_)
      exact ⟨by rw [hend], rfl⟩
theorem lin1 {f : Form} (h : f.sh) : lin Form.zero f 1 = f := by
  obtain ⟨C, D, K⟩ := f
  obtain ⟨a, b, c, rfl⟩ := len3 h.1
  obtain ⟨d, e, rfl⟩ := len2 h.2
  simp [lin, Form.zero]
end Cc
end
section
namespace Go.AM
open Go
def loopQ6 {E : Env} {α β γ δ ε ζ : Type} (P : α → β → γ → δ → ε → ζ → Prop) (upd : α → β → γ → δ → ε → ζ → St → St) (μ : α → β → γ → δ → ε → ζ → Nat) (st : St) (m : Nat) (Q : Ex → St → Prop) (e : Ex) (st' : St) : Prop := match e with
  | .normal => ∃ a' b' c' d' e' f', P a' b' c' d' e' f' ∧ μ a' b' c' d' e' f' < m ∧ weak st' (upd a' b' c' d' e' f' st)
  | .exit id => Q (.exit id) st'
  | .ret => Q .ret st'
theorem Vc.loop6 {E : Env} {cd : Code} {st : St} {Q : Ex → St → Prop} {α β γ δ ε ζ : Type} (P : α → β → γ → δ → ε → ζ → Prop) (upd : α → β → γ → δ → ε → ζ → St → St) (μ : α → β → γ → δ → ε → ζ → Nat) (a0 : α) (b0 : β) (c0 : γ) (d0 : δ) (e0 : ε) (f0 : ζ) (h0 : P a0 b0 c0 d0 e0 f0) (h1 : weak st (upd a0 b0 c0 d0 e0 f0 st))
    (h2 : ∀ a b c d e f, P a b c d e f → fSt (upd a b c d e f st) fun s => Vc E cd s (loopQ6 (E := E) P upd μ st (μ a b c d e f) Q)) : Vc E (.loop cd) st Q := by
  refine Vc.loop1 (α := α × β × γ × δ × ε × ζ) (fun x => P x.1 x.2.1 x.2.2.1 x.2.2.2.1 x.2.2.2.2.1 x.2.2.2.2.2) (fun x => upd x.1 x.2.1 x.2.2.1 x.2.2.2.1 x.2.2.2.2.1 x.2.2.2.2.2) (fun x => μ x.1 x.2.1 x.2.2.1 x.2.2.2.1 x.2.2.2.2.1 x.2.2.2.2.2) (a0, b0, c0, d0, e0, f0) h0 h1 fun x hx => ?_
  have h := h2 x.1 x.2.1 x.2.2.1 x.2.2.2.1 x.2.2.2.2.1 x.2.2.2.2.2 hx
  rw [fSt_eq] at h ⊢
  have e : loopQ6 (E := E) P upd μ st (μ x.1 x.2.1 x.2.2.1 x.2.2.2.1 x.2.2.2.2.1 x.2.2.2.2.2) Q = loopQ1 (α := α × β × γ × δ × ε × ζ) (fun x => P x.1 x.2.1 x.2.2.1 x.2.2.2.1 x.2.2.2.2.1 x.2.2.2.2.2) (fun x => upd x.1 x.2.1 x.2.2.1 x.2.2.2.1 x.2.2.2.2.1 x.2.2.2.2.2) (fun x => μ x.1 x.2.1 x.2.2.1 x.2.2.2.1 x.2.2.2.2.1 x.2.2.2.2.2) st (μ x.1 x.2.1 x.2.2.1 x.2.2.2.1 x.2.2.2.2.1 x.2.2.2.2.2) Q := by
    funext e st'
    cases e with
    | normal => exact propext ⟨fun ⟨a', b', c', d', e', f', q⟩ => ⟨(a', b', c', d', e', f'), q⟩, fun ⟨x, q⟩ => ⟨x.1, x.2.1, x.2.2.1, x.2.2.2.1, x.2.2.2.2.1, x.2.2.2.2.2, q⟩⟩
    | exit id => rfl
    | ret => rfl
  rw [← e]; exact h
end Go.AM
namespace Cc
open Go Go.AM
theorem drop_at {act : List Line} {i : Nat} (h : i < act.length) : act.drop i = act.getD i default :: act.drop (i + 1) := by
  rw [List.drop_eq_getElem_cons h, List.getD_eq_getElem?_getD, List.getElem?_eq_getElem h]; rfl
structure Wk (act : List Line) (i : Nat) (p q r : Form) (g t : List Form) : Prop where
  b : ∃ m : Int, 0 ≤ m ∧ (m + 4) * pw (act.length - i) ≤ 588245 ∧ p.bd m ∧ q.bd m ∧ r.bd m
  g : g.length + (act.length - i) ≤ 50 ∧ ∀ f ∈ g, f.bd 588246
  t : t.length + (act.length - i) ≤ 50 ∧ ∀ f ∈ t, f.bd 588246
section
variable {act : List Line} {i : Nat} {p q r : Form} {g t : List Form}
theorem Wk.start (h : act.length ≤ 6) : Wk act 0 (Form.pot 0) (Form.pot 1) (Form.pot 2) [] [] := by
  refine ⟨⟨1, by decide, ?_, pot_bd 0, pot_bd 1, pot_bd 2⟩, ⟨by simp; omega, by simp⟩, ⟨by simp; omega, by simp⟩⟩
  have h1 := pw_mono (n := act.length - 0) (k := 6) (by omega)
  have h2 : pw 6 = 117649 := by decide
  omega
theorem Wk.pots (w : Wk act i p q r g t) : p.bd 1000000 ∧ q.bd 1000000 ∧ r.bd 1000000 := by
  obtain ⟨m, h0, h1, hp, hq, hr⟩ := w.b
  have h2 := pw_pos (act.length - i)
  have : (m + 4) * 1 ≤ (m + 4) * pw (act.length - i) := Int.mul_le_mul_of_nonneg_left h2 (by omega)
  exact ⟨bd_mono hp (by omega), bd_mono hq (by omega), bd_mono hr (by omega)⟩
theorem Wk.lists (w : Wk act i p q r g t) : (g.length ≤ 50 ∧ ∀ f ∈ g, f.bd 10000000) ∧ (t.length ≤ 50 ∧ ∀ f ∈ t, f.bd 10000000) :=
  ⟨⟨by have := w.g.1; omega, fun f hf => bd_mono (w.g.2 f hf) (by decide)⟩, ⟨by have := w.t.1; omega, fun f hf => bd_mono (w.t.2 f hf) (by decide)⟩⟩
theorem Wk.mid (w : Wk act i p q r g t) (h : i < act.length) (hs : (act.getD i default).Form.small = true) :
    ∃ m : Int, 0 ≤ m ∧ (7 * m + 28) * pw (act.length - (i + 1)) ≤ 588245 ∧ 7 * m + 28 ≤ 588245 ∧ p.bd m ∧ q.bd m ∧ r.bd m ∧ (into (act.getD i default).Form [p, q, r]).bd (6 * m + 20) := by
  obtain ⟨m, h0, h1, hp, hq, hr⟩ := w.b
  rw [show act.length - i = (act.length - (i + 1)) + 1 from by omega, pw_succ] at h1
  have hpl := pw_pos (act.length - (i + 1))
  have hmul : (m + 4) * (7 * pw (act.length - (i + 1))) = (7 * m + 28) * pw (act.length - (i + 1)) := by
    rw [← Int.mul_assoc, Int.mul_comm (m + 4) 7, Int.mul_add]; rfl
  have hm2 : (7 * m + 28) * pw (act.length - (i + 1)) ≤ 588245 := by omega
  refine ⟨m, h0, hm2, ?_, hp, hq, hr, into_bd hs hp hq hr⟩
  have : (7 * m + 28) * 1 ≤ (7 * m + 28) * pw (act.length - (i + 1)) := Int.mul_le_mul_of_nonneg_left hpl (by omega)
  omega
theorem Wk.into (w : Wk act i p q r g t) (h : i < act.length) (hs : (act.getD i default).Form.small = true) : (Cc.into (act.getD i default).Form [p, q, r]).bd 588246 := by
  obtain ⟨m, h0, h1, h2, hp, hq, hr, hf⟩ := w.mid h hs
  exact bd_mono hf (by omega)
theorem Wk.on (w : Wk act i p q r g t) (h : i < act.length) (hs : (act.getD i default).Form.small = true) {k : Nat} (hk : i + 1 ≤ k) {g' t' : List Form} (hg : g' = g ∨ ∃ f : Form, f.bd 588246 ∧ g' = g ++ [f]) (ht : t' = t ∨ ∃ f : Form, f.bd 588246 ∧ t' = t ++ [f]) : Wk act k p q r g' t' := by
  obtain ⟨m, h0, h1, h2, hp, hq, hr, hf⟩ := w.mid h hs
  have key : ∀ {l l' : List Form}, (l.length + (act.length - i) ≤ 50 ∧ ∀ f ∈ l, f.bd 588246) → (l' = l ∨ ∃ f : Form, f.bd 588246 ∧ l' = l ++ [f]) → l'.length + (act.length - k) ≤ 50 ∧ ∀ f ∈ l', f.bd 588246 := by
    rintro l l' ⟨a, b⟩ (rfl | ⟨f, hf, rfl⟩)
    · exact ⟨by omega, b⟩
    · refine ⟨by simp only [List.length_append, List.length_singleton]; omega, fun x hx => ?_⟩
      rcases List.mem_append.1 hx with hx | hx
      · exact b x hx
      · rw [List.mem_singleton.1 hx]; exact hf
  refine ⟨⟨m, h0, ?_, hp, hq, hr⟩, key w.g hg, key w.t ht⟩
  have a1 := pw_mono (n := act.length - k) (k := act.length - (i + 1)) (by omega)
  have a2 : (m + 4) * pw (act.length - k) ≤ (m + 4) * pw (act.length - (i + 1)) := Int.mul_le_mul_of_nonneg_left a1 (by omega)
  have a3 : (m + 4) * pw (act.length - (i + 1)) ≤ (7 * m + 28) * pw (act.length - (i + 1)) := Int.mul_le_mul_of_nonneg_right (by omega) (by have := pw_pos (act.length - (i + 1)); omega)
  omega
theorem Wk.minus (w : Wk act i p q r g t) (h : i < act.length) (hs : (act.getD i default).Form.small = true) : (Cc.minus (Cc.into (act.getD i default).Form [p, q, r])).bd 588246 := by
  obtain ⟨m, h0, h1, h2, hp, hq, hr, hf⟩ := w.mid h hs
  exact bd_mono (minus_bd hf) (by omega)
theorem Wk.add (w : Wk act i p q r g t) (h : i < act.length) (hs : (act.getD i default).Form.small = true) {p' q' r' : Form}
    (hp' : p' = p ∨ p' = lin p (Cc.into (act.getD i default).Form [p, q, r]) 1) (hq' : q' = q ∨ q' = lin q (Cc.into (act.getD i default).Form [p, q, r]) 1) (hr' : r' = r ∨ r' = lin r (Cc.into (act.getD i default).Form [p, q, r]) 1) : Wk act (i + 1) p' q' r' g t := by
  obtain ⟨m, h0, h1, h2, hp, hq, hr, hf⟩ := w.mid h hs
  have one : ∀ {x y : Form}, x.bd m → (y = x ∨ y = lin x (Cc.into (act.getD i default).Form [p, q, r]) 1) → y.bd (7 * m + 20) := by
    rintro x y hx (rfl | rfl)
    · exact bd_mono hx (by omega)
    · exact bd_mono (lin_bd (k := 1) hx hf (by decide)) (by omega)
  refine ⟨⟨7 * m + 20, by omega, ?_, one hp hp', one hq hq', one hr hr'⟩, ⟨by have := w.g.1; omega, w.g.2⟩, ⟨by have := w.t.1; omega, w.t.2⟩⟩
  have : (7 * m + 20 + 4) * pw (act.length - (i + 1)) ≤ (7 * m + 28) * pw (act.length - (i + 1)) := Int.mul_le_mul_of_nonneg_right (by omega) (by have := pw_pos (act.length - (i + 1)); omega)
  omega
theorem Wk.sum (w : Wk act i p q r g t) (h : i < act.length) (hs : (act.getD i default).Form.small = true) {x : Form} (hx : x = p ∨ x = q ∨ x = r) : (lin x (Cc.into (act.getD i default).Form [p, q, r]) 1).bd 1000000 := by
  obtain ⟨m, h0, h1, h2, hp, hq, hr, hf⟩ := w.mid h hs
  have : x.bd m := by rcases hx with rfl | rfl | rfl <;> assumption
  exact bd_mono (lin_bd (k := 1) this hf (by decide)) (by omega)
theorem walk_end (h : act.length ≤ i) (ps g t : List Form) : walk (act.drop i) ps g t = [rowEnd ps g t] := by
  rw [List.drop_of_length_le h]; unfold walk; rfl
theorem walk_stop (h : i < act.length) (hk : (act.getD i default).Kind = 4) (ps g t : List Form) : walk (act.drop i) ps g t = [⟨g, [], [], true⟩] := by
  rw [drop_at h]; unfold walk; rw [if_pos hk]
theorem walk_test (h : i < act.length) (hk : (act.getD i default).Kind = 1) (ps g t : List Form) : walk (act.drop i) ps g t = walk (act.drop (i + 1)) ps (g ++ [Cc.into (act.getD i default).Form ps]) t ++ walk (act.drop (i + 1 + (act.getD i default).Skip.toNat)) ps (g ++ [Cc.minus (Cc.into (act.getD i default).Form ps)]) t := by
  rw [drop_at h]; conv => lhs; unfold walk
  rw [if_neg (by omega), if_pos hk, List.drop_drop]
theorem walk_add (h : i < act.length) (hk : (act.getD i default).Kind = 2) (ps g t : List Form) : walk (act.drop i) ps g t = walk (act.drop (i + 1)) (ps.set (act.getD i default).Pot.toNat (lin (ps.getD (act.getD i default).Pot.toNat Form.nil) (Cc.into (act.getD i default).Form ps) 1)) g t := by
  rw [drop_at h]; conv => lhs; unfold walk
  rw [if_neg (by omega), if_neg (by omega), if_pos hk]
theorem walk_tell (h : i < act.length) (hk : (act.getD i default).Kind = 3) (ps g t : List Form) : walk (act.drop i) ps g t = walk (act.drop (i + 1)) ps g (t ++ [Cc.into (act.getD i default).Form ps]) := by
  rw [drop_at h]; conv => lhs; unfold walk
  rw [if_neg (by omega), if_neg (by omega), if_neg (by omega)]
end
theorem walk_len : ∀ (n : Nat) (l : List Line), l.length ≤ n → ∀ (ps g t : List Form), (walk l ps g t).length ≤ 2 ^ n := by
  intro n
  induction n with
  | zero => intro l hl ps g t; cases l with | nil => unfold walk; simp | cons _ _ => simp at hl
  | succ n ih =>
    intro l hl ps g t
    have hp : 2 ^ n + 2 ^ n = 2 ^ (n + 1) := by omega
    have h1 : 1 ≤ 2 ^ n := Nat.one_le_two_pow
    cases l with
    | nil => unfold walk; simp; omega
    | cons x l =>
      have hl' : l.length ≤ n := by simpa using hl
      unfold walk
      split
      · simp; omega
      · split
        · rw [List.length_append]
          have a := ih l hl' ps (g ++ [into x.Form ps]) t
          have b := ih (l.drop x.Skip.toNat) (by simp; omega) ps (g ++ [minus (into x.Form ps)]) t
          omega
        · split
          · have a := ih l hl' (ps.set x.Pot.toNat (lin (ps.getD x.Pot.toNat Form.nil) (into x.Form ps) 1)) g t
            omega
          · have a := ih l hl' ps g (t ++ [into x.Form ps])
            omega
end Cc
end
section
namespace Cc
open Go Go.AM
theorem take_succ_getD {α : Type} [Inhabited α] {l : List α} {i : Nat} (h : i < l.length) : l.take (i + 1) = l.take i ++ [l.getD i default] := by
  rw [List.take_add_one, List.getElem?_eq_getElem h, List.getD_eq_getElem?_getD, List.getElem?_eq_getElem h]; rfl
theorem walk_lens : ∀ (n : Nat) (l : List Line), l.length ≤ n → ∀ (p q r : Form) (g t : List Form), ∀ w ∈ walk l [p, q, r] g t, w.Guards.length ≤ g.length + n ∧ w.Adds.length ≤ 3 ∧ w.Tells.length ≤ t.length + n := by
  intro n
  induction n with
  | zero =>
    intro l hl p q r g t w hw
    cases l with
    | cons _ _ => simp at hl
    | nil => unfold walk at hw; simp only [List.mem_singleton] at hw; subst hw; simp [rowEnd]
  | succ n ih =>
    intro l hl p q r g t w hw
    cases l with
    | nil => unfold walk at hw; simp only [List.mem_singleton] at hw; subst hw; simp [rowEnd]
    | cons x l =>
      have hl' : l.length ≤ n := by simpa using hl
      unfold walk at hw
      split at hw
      · simp only [List.mem_singleton] at hw; subst hw; simp
      · split at hw
        · rcases List.mem_append.1 hw with hw | hw
          · have := ih l hl' p q r _ t w hw
            simp only [List.length_append, List.length_singleton] at this; omega
          · have := ih (l.drop x.Skip.toNat) (by simp; omega) p q r _ t w hw
            simp only [List.length_append, List.length_singleton] at this; omega
        · split at hw
          · obtain ⟨p', q', r', e⟩ : ∃ p' q' r', [p, q, r].set x.Pot.toNat (lin ([p, q, r].getD x.Pot.toNat Form.nil) (into x.Form [p, q, r]) 1) = [p', q', r'] := len3 (by simp)
            rw [e] at hw
            have := ih l hl' p' q' r' g t w hw
            omega
          · have := ih l hl' p q r g _ w hw
            simp only [List.length_append, List.length_singleton] at this; omega
theorem rows_lens {act : List Line} {w : Row} (h : w ∈ rowsOf act) : w.Guards.length ≤ 6 ∧ w.Adds.length ≤ 3 ∧ w.Tells.length ≤ 6 := by
  unfold rowsOf at h
  split at h
  · rename_i ha
    have := walk_lens 6 act (actOk_iff.1 ha).2.1 _ _ _ [] [] w h
    simpa using this
  · cases h
theorem rows_len (act : List Line) : (rowsOf act).length ≤ 64 := by
  unfold rowsOf
  split
  · rename_i ha
    have := walk_len 6 act (actOk_iff.1 ha).2.1 pots0 [] []
    omega
  · simp
theorem rows_shs {act : List Line} {w : Row} (h : w ∈ rowsOf act) : shs w.Guards ∧ shs w.Adds ∧ shs w.Tells := by
  have hb := rowsOf_bd h
  have hl := rows_lens h
  exact ⟨⟨by omega, fun f hf => (hb.1 f hf).1⟩, ⟨by omega, fun f hf => (hb.2.1 f hf).1⟩, ⟨by omega, fun f hf => (hb.2.2.1 f hf).1⟩⟩
def gAt (acts : List (List Line)) (i k : Nat) : List Form := guardsOf (acts.take i) ++ ((rowsOf (acts.getD i [])).take k).flatMap fun r => r.Guards
def fAt (acts : List (List Line)) (i k : Nat) : List Form := formsOf (acts.take i) ++ ((rowsOf (acts.getD i [])).take k).flatMap fun r => r.Adds ++ r.Tells
theorem gAt_row {acts : List (List Line)} {i k : Nat} (h : k < (rowsOf (acts.getD i [])).length) : gAt acts i (k + 1) = gAt acts i k ++ ((rowsOf (acts.getD i [])).getD k default).Guards := by
  unfold gAt; rw [take_succ_getD h, List.flatMap_append]; simp
theorem fAt_row {acts : List (List Line)} {i k : Nat} (h : k < (rowsOf (acts.getD i [])).length) : fAt acts i (k + 1) = fAt acts i k ++ (((rowsOf (acts.getD i [])).getD k default).Adds ++ ((rowsOf (acts.getD i [])).getD k default).Tells) := by
  unfold fAt; rw [take_succ_getD h, List.flatMap_append]; simp
theorem gAt_act {acts : List (List Line)} {i k : Nat} (hi : i < acts.length) (h : (rowsOf (acts.getD i [])).length ≤ k) : gAt acts i k = gAt acts (i + 1) 0 := by
  unfold gAt guardsOf; rw [List.take_of_length_le h]
  have e : acts.take (i + 1) = acts.take i ++ [acts.getD i []] := take_succ_getD hi
  rw [e, List.flatMap_append]; simp
theorem fAt_act {acts : List (List Line)} {i k : Nat} (hi : i < acts.length) (h : (rowsOf (acts.getD i [])).length ≤ k) : fAt acts i k = fAt acts (i + 1) 0 := by
  unfold fAt formsOf; rw [List.take_of_length_le h]
  have e : acts.take (i + 1) = acts.take i ++ [acts.getD i []] := take_succ_getD hi
  rw [e, List.flatMap_append]; simp
theorem gAt_end {acts : List (List Line)} {i : Nat} (h : acts.length ≤ i) : gAt acts i 0 = guardsOf acts := by unfold gAt; rw [List.take_of_length_le h]; simp
theorem fAt_end {acts : List (List Line)} {i : Nat} (h : acts.length ≤ i) : fAt acts i 0 = formsOf acts := by unfold fAt; rw [List.take_of_length_le h]; simp
theorem reads_app (a b : List Form) (v : Nat) : reads (a ++ b) v = (reads a v || reads b v) := by simp [reads]
def pAt (gs : List Form) : List (List Int) := gs.foldl addPart [[1, 0, 0], [0, 1, 0], [0, 0, 1]]
theorem pAt_app (gs : List Form) (g : Form) : pAt (gs ++ [g]) = addPart (pAt gs) g := by simp [pAt]
theorem addPart_len (out : List (List Int)) (g : Form) : (addPart out g).length ≤ out.length + 1 := by unfold addPart; simp only; split <;> simp
theorem pAt_len (gs : List Form) : (pAt gs).length ≤ 3 + gs.length := by
  unfold pAt
  have key : ∀ (gs : List Form) (o : List (List Int)), (gs.foldl addPart o).length ≤ o.length + gs.length := by
    intro gs
    induction gs with
    | nil => intro o; simp
    | cons g r ih => intro o; have h1 := ih (addPart o g); have h2 := addPart_len o g; simp only [List.foldl_cons, List.length_cons]; omega
  have := key gs [[1, 0, 0], [0, 1, 0], [0, 0, 1]]
  simpa using this
theorem guards_len : ∀ acts : List (List Line), (guardsOf acts).length ≤ acts.length * 384
  | [] => by simp [guardsOf]
  | a :: r => by
    have ih := guards_len r
    have h1 : ∀ l : List Row, (∀ w ∈ l, w.Guards.length ≤ 6) → (l.flatMap fun r => r.Guards).length ≤ l.length * 6 := by
      intro l
      induction l with
      | nil => simp
      | cons w l ih => intro h; have := ih fun w hw => h w (List.mem_cons_of_mem _ hw); have := h w (by simp); simp only [List.flatMap_cons, List.length_append, List.length_cons]; omega
    have h2 := h1 (rowsOf a) fun w hw => (rows_lens hw).1
    have h3 := rows_len a
    unfold guardsOf at ih ⊢
    simp only [List.flatMap_cons, List.length_append, List.length_cons]; omega
theorem rows_take_len (acts : List (List Line)) (i k : Nat) : (gAt acts i k).length ≤ (acts.take i).length * 384 + 384 := by
  have h1 : ∀ l : List Row, (∀ w ∈ l, w.Guards.length ≤ 6) → (l.flatMap fun r => r.Guards).length ≤ l.length * 6 := by
    intro l
    induction l with
    | nil => simp
    | cons w l ih => intro h; have := ih fun w hw => h w (List.mem_cons_of_mem _ hw); have := h w (by simp); simp only [List.flatMap_cons, List.length_append, List.length_cons]; omega
  have h2 := h1 ((rowsOf (acts.getD i [])).take k) fun w hw => (rows_lens (List.mem_of_mem_take hw)).1
  have h3 := rows_len (acts.getD i [])
  have h4 := guards_len (acts.take i)
  have h5 : ((rowsOf (acts.getD i [])).take k).length ≤ 64 := by rw [List.length_take]; omega
  unfold gAt
  rw [List.length_append]; omega
theorem has_idx (out : List (List Int)) (p : List Int) : decide (idxOf (fun q => decide (q = p)) out < 0) = !has out p := by
  have := idx_any (fun q => decide (q = p)) out
  unfold has
  rw [← this]
  by_cases h : idxOf (fun q => decide (q = p)) out < 0
  · simp [h]
  · simp [h, Int.not_lt.1 h]
end Cc
end
section
namespace Cc
open Go Go.AM
set_option maxRecDepth 100000
set_option maxHeartbeats 4000000
def addL : List Int → List Int → Int → List Int
  | a :: r, b :: s, n => (a + n * b) :: addL r s n
  | l, _, _ => l
abbrev addF (f g : Form) (n : Int) : Form := ⟨addL f.C g.C n, addL f.D g.D n, f.K + n * g.K⟩
theorem addL_nil (l : List Int) (n : Int) : addL l [] n = l := by cases l <;> rfl
theorem addL_len : ∀ (l s : List Int) (n : Int), (addL l s n).length = l.length
  | [], _, _ => by simp [addL]
  | a :: r, [], _ => by simp [addL]
  | a :: r, b :: s, n => by simp [addL, addL_len r s n]
theorem addL_get (n : Int) : ∀ (l s : List Int) (i : Nat), (addL l (s.take i) n).getD i 0 = l.getD i 0
  | [], s, i => by simp [addL]
  | a :: r, s, 0 => by simp [addL]
  | a :: r, [], i + 1 => by simp [addL]
  | a :: r, b :: s, i + 1 => by simpa [addL] using addL_get n r s i
theorem addL_step (n : Int) : ∀ (l s : List Int) (i : Nat), i < s.length → i < l.length → (addL l (s.take i) n).set i (l.getD i 0 + n * s.getD i 0) = addL l (s.take (i + 1)) n
  | [], s, i, _, h => by simp at h
  | a :: r, [], i, h, _ => by simp at h
  | a :: r, b :: s, 0, _, _ => by simp [addL, addL_nil]
  | a :: r, b :: s, i + 1, h, h' => by
    have := addL_step n r s i (by simpa using h) (by simpa using h')
    simpa [addL] using this
theorem addL_zip (n : Int) : ∀ (l s : List Int), l.length = s.length → addL l s n = List.zipWith (fun x y => x + n * y) l s
  | [], [], _ => rfl
  | [], _ :: _, h => by simp at h
  | _ :: _, [], h => by simp at h
  | a :: r, b :: s, h => by simp [addL, addL_zip n r s (by simpa using h)]
theorem impl_add (f g : Form) (n : Int) (hf : (∀ x ∈ f.C, -1000000000000000 ≤ x ∧ x ≤ 1000000000000000) ∧ (∀ x ∈ f.D, -1000000000000000 ≤ x ∧ x ≤ 1000000000000000) ∧ -1000000000000000 ≤ f.K ∧ f.K ≤ 1000000000000000)
    (hg : (∀ x ∈ g.C, -10000000 ≤ x ∧ x ≤ 10000000) ∧ (∀ x ∈ g.D, -10000000 ≤ x ∧ x ≤ 10000000) ∧ -10000000 ≤ g.K ∧ g.K ≤ 10000000) (hn : -10000000000 ≤ n ∧ n ≤ 10000000000) (hC : g.C.length ≤ f.C.length) (hD : g.D.length ≤ f.D.length) (h100 : f.C.length ≤ 100 ∧ f.D.length ≤ 100) :
    Sem P 395 [(.io 0 0, .agg (aF f)), (.pure, .agg (aF g)), (.pure, I n)] [.agg (aF (addF f g n))] (.tup []) := by
  have p6 := mul_bd hn hg.2.2
  have lgC := ints_len g.C
  have lgD := ints_len g.D
  refine fn_okR (E := E0) E0_tab E0_ord (fn := Go.Proofs.Tryz.f395) (by kernel_rfl) (by kernel_rfl) (fun hb => ?_)
  conv => whnf
  (repeat' first | ((first | refine Sq.cons ?_ | refine Dr.cons ?_ | refine Sq.nil ?_ | (refine Dr.nil ?_; refine drawIf (by kernel_rfl) ?_) | refine Vc.region rfl ?_ | refine Vc.draw rfl (by kernel_rfl) ?_ | refine Vc.cond ?_ | refine Vc.block ?_ | refine Vc.ret ?_ | refine Vc.skip ?_ | refine Vc.exit ?_ | refine mkSl (by omega) (by omega) ?_); conv => whnf) | refine Vc.seq ?_)
  refine Vc.loop1 (fun (i : Nat) => i ≤ g.C.length) (fun i => updL [0, 2, 4, 8, 9, 11, 12, 31, 32, 33, 34, 35, 36, 37, 38, 39, 40, 41, 42, 43, 44, 45, 46, 47, 48, 49, 50, 51, 52, 53, 54, 55, 56, 57, 58, 59, 60, 61, 62] [(13, I i)] [(0, .arr 3 (ints (addL f.C (g.C.take i) n)) false)]) (fun i => g.C.length - i) 0 (Nat.zero_le _) ?_ (fun i hi => ?_)
  · repeat' (first | exact True.intro | ((conv => whnf); first | exact True.intro | refine ⟨by rfl, ?_⟩ | refine ⟨by first | omega | (show (_ : Int) = _; first | omega | (dsimp only; omega)) | exact congrArg ints (addL_nil _ _).symm | exact congrArg ints (addL_nil _ _), ?_⟩ | refine ⟨?_, ?_⟩))
  · have hlo : (ints (addL f.C (g.C.take i) n)).length = f.C.length := by rw [ints_len, addL_len]
    have hlo' := addL_len f.C (g.C.take i) n
    conv => whnf
    (repeat' first | ((first | refine Sq.cons ?_ | refine Dr.cons ?_ | refine Sq.nil ?_ | (refine Dr.nil ?_; refine drawIf (by kernel_rfl) ?_) | refine Vc.region rfl ?_ | refine Vc.draw rfl (by kernel_rfl) ?_ | refine Vc.cond ?_ | refine Vc.block ?_ | refine Vc.ret ?_ | refine Vc.skip ?_ | refine Vc.exit ?_ | refine mkSl (by omega) (by omega) ?_); conv => whnf) | refine Vc.seq ?_)
    refine ifB_d (fun gd => ?_) (fun gd => ?_)
    all_goals conv => whnf
    · have b1 := getD_bd hf.1 (i := i) (by omega)
      have p := mul_bd hn (getD_bd hg.1 (i := i) (by omega))
      have e1 := addL_get n f.C g.C i
      have e2 := addL_step n f.C g.C i (by omega) (by omega)
      repeat' first | ((first | refine Sq.cons ?_ | refine Dr.cons ?_ | refine Sq.nil ?_ | (refine Dr.nil ?_; refine drawIf (by kernel_rfl) ?_) | refine Vc.region rfl ?_ | refine Vc.draw rfl (by kernel_rfl) ?_ | refine Vc.cond ?_ | refine Vc.block ?_ | refine Vc.ret ?_ | refine Vc.skip ?_ | refine Vc.exit ?_ | refine mkSl (by omega) (by omega) ?_); conv => whnf) | refine Vc.seq ?_ | (refine ifB_i (fun _ => ?_) (fun _ => ?_) <;> conv => whnf) | (refine ixN (enc := rI) 0 (by omega) ?_; conv => whnf) | (refine ioN (by omega) (by omega) ?_; conv => whnf) | (refine rwN (enc := rI) 0 (by omega) ?_; conv => whnf) | (refine w64 (by first | omega | (simp only [Int.toNat_natCast]; omega)) (by first | omega | (simp only [Int.toNat_natCast]; omega)) ?_; conv => whnf)
      refine ⟨i + 1, by omega, by simp only; omega, ?_⟩
      repeat' (first | exact True.intro | ((conv => whnf); first | exact True.intro | refine ⟨by rfl, ?_⟩ | refine ⟨by first | omega | (show (_ : Int) = _; first | omega | (dsimp only; omega)) | exact (by simp only [Int.toNat_natCast]; rw [set_ints, e1, e2]), ?_⟩ | refine ⟨?_, ?_⟩))
    · have e : i = g.C.length := by omega
      subst e
      (repeat' first | ((first | refine Sq.cons ?_ | refine Dr.cons ?_ | refine Sq.nil ?_ | (refine Dr.nil ?_; refine drawIf (by kernel_rfl) ?_) | refine Vc.region rfl ?_ | refine Vc.draw rfl (by kernel_rfl) ?_ | refine Vc.cond ?_ | refine Vc.block ?_ | refine Vc.ret ?_ | refine Vc.skip ?_ | refine Vc.exit ?_ | refine mkSl (by omega) (by omega) ?_); conv => whnf) | refine Vc.seq ?_)
      refine Vc.loop1 (fun (i : Nat) => i ≤ g.D.length) (fun i => updL [0, 2, 4, 32, 33, 52, 53, 54, 55, 56, 57, 58, 59, 60, 61, 62] [(34, I i)] [(1, .arr 3 (ints (addL f.D (g.D.take i) n)) false)]) (fun i => g.D.length - i) 0 (Nat.zero_le _) ?_ (fun i hi => ?_)
      · repeat' (first | exact True.intro | ((conv => whnf); first | exact True.intro | refine ⟨by rfl, ?_⟩ | refine ⟨by first | omega | (show (_ : Int) = _; first | omega | (dsimp only; omega)) | exact congrArg ints (addL_nil _ _).symm | exact congrArg ints (addL_nil _ _), ?_⟩ | refine ⟨?_, ?_⟩))
      · have hlo : (ints (addL f.D (g.D.take i) n)).length = f.D.length := by rw [ints_len, addL_len]
        conv => whnf
        (repeat' first | ((first | refine Sq.cons ?_ | refine Dr.cons ?_ | refine Sq.nil ?_ | (refine Dr.nil ?_; refine drawIf (by kernel_rfl) ?_) | refine Vc.region rfl ?_ | refine Vc.draw rfl (by kernel_rfl) ?_ | refine Vc.cond ?_ | refine Vc.block ?_ | refine Vc.ret ?_ | refine Vc.skip ?_ | refine Vc.exit ?_ | refine mkSl (by omega) (by omega) ?_); conv => whnf) | refine Vc.seq ?_)
        refine ifB_d (fun gd => ?_) (fun gd => ?_)
        all_goals conv => whnf
        · have b1 := getD_bd hf.2.1 (i := i) (by omega)
          have p := mul_bd hn (getD_bd hg.2.1 (i := i) (by omega))
          have e1 := addL_get n f.D g.D i
          have e2 := addL_step n f.D g.D i (by omega) (by omega)
          have hlo' := addL_len f.D (g.D.take i) n
          repeat' first | ((first | refine Sq.cons ?_ | refine Dr.cons ?_ | refine Sq.nil ?_ | (refine Dr.nil ?_; refine drawIf (by kernel_rfl) ?_) | refine Vc.region rfl ?_ | refine Vc.draw rfl (by kernel_rfl) ?_ | refine Vc.cond ?_ | refine Vc.block ?_ | refine Vc.ret ?_ | refine Vc.skip ?_ | refine Vc.exit ?_ | refine mkSl (by omega) (by omega) ?_); conv => whnf) | refine Vc.seq ?_ | (refine ifB_i (fun _ => ?_) (fun _ => ?_) <;> conv => whnf) | (refine ixN (enc := rI) 0 (by omega) ?_; conv => whnf) | (refine ioN (by omega) (by omega) ?_; conv => whnf) | (refine rwN (enc := rI) 0 (by omega) ?_; conv => whnf) | (refine w64 (by first | omega | (simp only [Int.toNat_natCast]; omega)) (by first | omega | (simp only [Int.toNat_natCast]; omega)) ?_; conv => whnf)
          refine ⟨i + 1, by omega, by simp only; omega, ?_⟩
          repeat' (first | exact True.intro | ((conv => whnf); first | exact True.intro | refine ⟨by rfl, ?_⟩ | refine ⟨by first | omega | (show (_ : Int) = _; first | omega | (dsimp only; omega)) | exact (by simp only [Int.toNat_natCast]; rw [set_ints, e1, e2]), ?_⟩ | refine ⟨?_, ?_⟩))
        · have e : i = g.D.length := by omega
          subst e
          repeat' first | ((first | refine Sq.cons ?_ | refine Dr.cons ?_ | refine Sq.nil ?_ | (refine Dr.nil ?_; refine drawIf (by kernel_rfl) ?_) | refine Vc.region rfl ?_ | refine Vc.draw rfl (by kernel_rfl) ?_ | refine Vc.cond ?_ | refine Vc.block ?_ | refine Vc.ret ?_ | refine Vc.skip ?_ | refine Vc.exit ?_ | refine mkSl (by omega) (by omega) ?_); conv => whnf) | refine Vc.seq ?_ | (refine ifB_i (fun _ => ?_) (fun _ => ?_) <;> conv => whnf) | (refine w64 (by omega) (by omega) ?_; conv => whnf)
          exact ⟨rfl, by simp only [List.take_length]⟩
theorem impl_checked {f g : Form} (e : f = g) (h : g.ok = true) : Sem P 396 [(.pure, .agg (aF f))] [] (.agg (eF g)) := by
  subst e
  refine fn_okR (E := E0) E0_tab E0_ord (fn := Go.Proofs.Tryz.f396) (by kernel_rfl) (by kernel_rfl) (fun hb => ?_)
  conv => whnf
  repeat' first | ((first | refine Sq.cons ?_ | refine Dr.cons ?_ | refine Sq.nil ?_ | (refine Dr.nil ?_; refine drawIf (by kernel_rfl) ?_) | refine Vc.region rfl ?_ | refine Vc.draw rfl (by kernel_rfl) ?_ | refine Vc.cond ?_ | refine Vc.block ?_ | refine Vc.ret ?_ | refine Vc.skip ?_ | refine Vc.exit ?_ | refine mkSl (by omega) (by omega) ?_); conv => whnf) | refine Vc.seq ?_ | (refine ifB_i (fun _ => ?_) (fun _ => ?_) <;> conv => whnf) | (refine ⟨_, impl_frmOk f, ?_⟩; conv => whnf)
  · rename_i h'; rw [h] at h'; cases h'
  · exact ⟨rfl, rfl⟩
def wide (f : Form) : Prop := f.sh ∧ (∀ x ∈ f.C, -1000000000000000 ≤ x ∧ x ≤ 1000000000000000) ∧ (∀ x ∈ f.D, -1000000000000000 ≤ x ∧ x ≤ 1000000000000000) ∧ -1000000000000000 ≤ f.K ∧ f.K ≤ 1000000000000000
theorem addS (f g : Form) (n : Int) (hf : wide f) (hg : g.bd 10000000) (hn : -10000000000 ≤ n ∧ n ≤ 10000000000) : Sem P 395 [(.io 0 0, .agg (aF f)), (.pure, .agg (aF g)), (.pure, I n)] [.agg (aF (addF f g n))] (.tup []) :=
  impl_add f g n hf.2 hg.2 hn (by rw [hf.1.1, hg.1.1]; exact Nat.le_refl _) (by rw [hf.1.2, hg.1.2]; exact Nat.le_refl _) (by rw [hf.1.1, hf.1.2]; decide)
theorem wide_zero : wide Form.zero := ⟨⟨rfl, rfl⟩, by simp [Form.zero], by simp [Form.zero], by decide, by decide⟩
theorem addF_lin {f g : Form} {n : Int} (hf : f.sh) (hg : g.sh) : addF f g n = lin f g n := by
  simp only [addF, lin]
  rw [addL_zip n _ _ (by rw [hf.1, hg.1]), addL_zip n _ _ (by rw [hf.2, hg.2])]
theorem bd_wide {f : Form} {m : Int} (h : f.bd m) (hm : m ≤ 1000000000000000) : wide f := by
  have h := bd_mono h hm
  exact ⟨h.1, h.2.1, h.2.2.1, h.2.2.2⟩
theorem impl_times (a : Form) (n : Int) (ha : a.bd 10000000) (hn : -10000000 ≤ n ∧ n ≤ 10000000) (hk : (lin Form.zero a n).ok = true) : Sem P 375 [(.pure, .agg (aF a)), (.pure, I n)] [] (.agg (eF (lin Form.zero a n))) := by
  have e1 : addF Form.zero a n = lin Form.zero a n := addF_lin ⟨rfl, rfl⟩ ha.1
  have ok1 := ok_bd.2 ha
  have in1 : inB n (-10000000) 10000000 = true := inB_iff.2 hn
  refine fn_okR (E := { E0 with keep := [4000], fz := [(5, [320160, 320161])] }) E0_tab E0_ord (fn := Go.Proofs.Tryz.f375) (by kernel_rfl) (by kernel_rfl) (fun hb => ?_)
  conv => whnf
  repeat' first | ((first | refine Sq.cons ?_ | refine Dr.cons ?_ | refine Sq.nil ?_ | (refine Dr.nil ?_; refine drawIf (by kernel_rfl) ?_) | refine Vc.region rfl ?_ | refine Vc.draw rfl (by kernel_rfl) ?_ | refine Vc.cond ?_ | refine Vc.block ?_ | refine Vc.ret ?_ | refine Vc.skip ?_ | refine Vc.exit ?_ | refine mkSl (by omega) (by omega) ?_); conv => whnf) | refine Vc.seq ?_ | (refine ifB_i (fun _ => ?_) (fun _ => ?_) <;> conv => whnf) | (refine ⟨_, impl_frmOk a, ?_⟩; conv => whnf) | (refine ⟨_, impl_in _ _ _, ?_⟩; conv => whnf) | (refine ⟨_, impl_zero, ?_⟩; conv => whnf) | (refine ⟨_, _, addS Form.zero a n wide_zero ha (by omega), ?_⟩; conv => whnf) | (refine ⟨_, impl_checked e1 hk, ?_⟩; conv => whnf)
  all_goals first
    | exact ⟨rfl, rfl⟩
    | (exfalso; simp_all; done)
theorem impl_frmAdd (a b : Form) (ha : a.bd 10000000) (hb' : b.bd 10000000) (hk : (lin a b 1).ok = true) : Sem P 376 [(.pure, .agg (aF a)), (.pure, .agg (aF b))] [] (.agg (eF (lin a b 1))) := by
  have e0 : addF Form.zero a 1 = a := by rw [addF_lin ⟨rfl, rfl⟩ ha.1, lin1 ha.1]
  have e1 : addF (addF Form.zero a 1) b 1 = lin a b 1 := by rw [e0]; exact addF_lin ha.1 hb'.1
  have w1 : wide (addF Form.zero a 1) := by rw [e0]; exact bd_wide ha (by decide)
  have ok1 := ok_bd.2 ha
  have ok2 := ok_bd.2 hb'
  refine fn_okR (E := { E0 with keep := [4000], fz := [(6, [384096, 384097])] }) E0_tab E0_ord (fn := Go.Proofs.Tryz.f376) (by kernel_rfl) (by kernel_rfl) (fun hb => ?_)
  conv => whnf
  repeat' first | ((first | refine Sq.cons ?_ | refine Dr.cons ?_ | refine Sq.nil ?_ | (refine Dr.nil ?_; refine drawIf (by kernel_rfl) ?_) | refine Vc.region rfl ?_ | refine Vc.draw rfl (by kernel_rfl) ?_ | refine Vc.cond ?_ | refine Vc.block ?_ | refine Vc.ret ?_ | refine Vc.skip ?_ | refine Vc.exit ?_ | refine mkSl (by omega) (by omega) ?_); conv => whnf) | refine Vc.seq ?_ | (refine ifB_i (fun _ => ?_) (fun _ => ?_) <;> conv => whnf) | (refine ⟨_, impl_frmOk a, ?_⟩; conv => whnf) | (refine ⟨_, impl_frmOk b, ?_⟩; conv => whnf) | (refine ⟨_, impl_zero, ?_⟩; conv => whnf) | (refine ⟨_, _, addS Form.zero a 1 wide_zero ha (by decide), ?_⟩; conv => whnf) | (refine ⟨_, _, addS (addF Form.zero a 1) b 1 w1 hb' (by decide), ?_⟩; conv => whnf) | (refine ⟨_, impl_checked e1 hk, ?_⟩; conv => whnf)
  all_goals first
    | exact ⟨rfl, rfl⟩
    | (exfalso; simp_all; done)
theorem into_1 (f : Form) : Sem P 394 [(.pure, .agg (aF f))] [] (B (!f.ok)) := by
  refine fn_okR (E := E0) E0_tab E0_ord (fn := Go.Proofs.Tryz.f394) (by kernel_rfl) (by kernel_rfl) (fun hb => ?_)
  conv => whnf
  repeat' first | ((first | refine Sq.cons ?_ | refine Dr.cons ?_ | refine Sq.nil ?_ | (refine Dr.nil ?_; refine drawIf (by kernel_rfl) ?_) | refine Vc.region rfl ?_ | refine Vc.draw rfl (by kernel_rfl) ?_ | refine Vc.cond ?_ | refine Vc.block ?_ | refine Vc.ret ?_ | refine Vc.skip ?_ | refine Vc.exit ?_ | refine mkSl (by omega) (by omega) ?_); conv => whnf) | refine Vc.seq ?_ | (refine ifB_i (fun _ => ?_) (fun _ => ?_) <;> conv => whnf) | (refine ⟨_, impl_frmOk f, ?_⟩; conv => whnf)
  exact ⟨rfl, rfl⟩
theorem forms_any_ix  (l : List Form) : Sem P 363 [(.pure, .one (sFs l)), (.pure, .one (.fn 394 []))] [] (I (idxOf (fun (x : Form) => !x.ok) l)) := by
  refine fn_okR (E := E0) E0_tab E0_ord (fn := Go.Proofs.Tryz.f363) (by kernel_rfl) (by kernel_rfl) (fun hb => ?_)
  have la : (l.map eF).length = l.length := List.length_map ..
  have hb1 : (l.map eF).length ≤ 1125899906842624 := hb.1.1
  conv => whnf
  (repeat' first | ((first | refine Sq.cons ?_ | refine Dr.cons ?_ | refine Sq.nil ?_ | (refine Dr.nil ?_; refine drawIf (by kernel_rfl) ?_) | refine Vc.region rfl ?_ | refine Vc.draw rfl (by kernel_rfl) ?_ | refine Vc.cond ?_ | refine Vc.block ?_ | refine Vc.ret ?_ | refine Vc.skip ?_ | refine Vc.exit ?_ | refine mkSl (by omega) (by omega) ?_); conv => whnf) | refine Vc.seq ?_)
  refine Vc.loop { i : Nat // ∀ j, j < i → j < l.length → (fun (x : Form) => !x.ok) (l.getD j default) = false } (fun i => updL [0, 1, 7] [(8, I i.1)] []) (fun i => l.length - i.1) ⟨0, by simp⟩ ?_ (fun i => ?_)
  · repeat' (first | exact True.intro | ((conv => whnf); first | exact True.intro | refine ⟨by rfl, ?_⟩ | refine ⟨?_, ?_⟩))
  · have hi := i.2
    conv => whnf
    (repeat' first | ((first | refine Sq.cons ?_ | refine Dr.cons ?_ | refine Sq.nil ?_ | (refine Dr.nil ?_; refine drawIf (by kernel_rfl) ?_) | refine Vc.region rfl ?_ | refine Vc.draw rfl (by kernel_rfl) ?_ | refine Vc.cond ?_ | refine Vc.block ?_ | refine Vc.ret ?_ | refine Vc.skip ?_ | refine Vc.exit ?_ | refine mkSl (by omega) (by omega) ?_); conv => whnf) | refine Vc.seq ?_)
    refine ifB_d (fun g => ?_) (fun g => ?_)
    all_goals conv => whnf
    · repeat' first | ((first | refine Sq.cons ?_ | refine Dr.cons ?_ | refine Sq.nil ?_ | (refine Dr.nil ?_; refine drawIf (by kernel_rfl) ?_) | refine Vc.region rfl ?_ | refine Vc.draw rfl (by kernel_rfl) ?_ | refine Vc.cond ?_ | refine Vc.block ?_ | refine Vc.ret ?_ | refine Vc.skip ?_ | refine Vc.exit ?_ | refine mkSl (by omega) (by omega) ?_); conv => whnf) | refine Vc.seq ?_ | (refine ifB_i (fun _ => ?_) (fun _ => ?_) <;> conv => whnf) | (refine ixN (enc := eF) default (by omega) ?_; conv => whnf) | (refine ⟨_, into_1 _, ?_⟩; conv => whnf) | (refine w64 (by omega) (by omega) ?_; conv => whnf)
      · rename_i h
        exact rI' (idx_hit (p := fun (x : Form) => !x.ok) default (by omega) h fun j hj => hi j hj (by omega)).symm
      · rename_i h
        refine ⟨⟨i.1 + 1, fun j hj hl => ?_⟩, ?_, ?_⟩
        · by_cases hji : j < i.1
          · exact hi j hji hl
          · obtain rfl : j = i.1 := by omega
            exact h
        · simp only; omega
        · repeat' (first | exact True.intro | ((conv => whnf); first | exact True.intro | refine ⟨by rfl, ?_⟩ | refine ⟨?_, ?_⟩))
    · (repeat' first | ((first | refine Sq.cons ?_ | refine Dr.cons ?_ | refine Sq.nil ?_ | (refine Dr.nil ?_; refine drawIf (by kernel_rfl) ?_) | refine Vc.region rfl ?_ | refine Vc.draw rfl (by kernel_rfl) ?_ | refine Vc.cond ?_ | refine Vc.block ?_ | refine Vc.ret ?_ | refine Vc.skip ?_ | refine Vc.exit ?_ | refine mkSl (by omega) (by omega) ?_); conv => whnf) | refine Vc.seq ?_)
      exact rI' (idx_none (p := fun (x : Form) => !x.ok) default fun j hj => hi j (by omega) hj).symm
theorem forms_any  (l : List Form) : Sem P 328 [(.pure, .one (sFs l)), (.pure, .one (.fn 394 []))] [] (B (l.any fun (x : Form) => !x.ok)) := by
  refine fn_okR (E := E0) E0_tab E0_ord (fn := Go.Proofs.Tryz.f328) (by kernel_rfl) (by kernel_rfl) (fun hb => ?_)
  conv => whnf
  repeat' first | ((first | refine Sq.cons ?_ | refine Dr.cons ?_ | refine Sq.nil ?_ | (refine Dr.nil ?_; refine drawIf (by kernel_rfl) ?_) | refine Vc.region rfl ?_ | refine Vc.draw rfl (by kernel_rfl) ?_ | refine Vc.cond ?_ | refine Vc.block ?_ | refine Vc.ret ?_ | refine Vc.skip ?_ | refine Vc.exit ?_ | refine mkSl (by omega) (by omega) ?_); conv => whnf) | refine Vc.seq ?_ | (refine ifB_i (fun _ => ?_) (fun _ => ?_) <;> conv => whnf) | (refine ⟨_, forms_any_ix  l, ?_⟩; conv => whnf)
  exact rB (idx_any _ _)
abbrev intoN (a b c : Int) (p q r : Form) : Nat → Form
  | 0 => Form.zero
  | 1 => addF Form.zero p a
  | 2 => addF (addF Form.zero p a) q b
  | _ => addF (addF (addF Form.zero p a) q b) r c
theorem impl_into (f p q r : Form) (hf : f.bd 10000000) (hp : p.bd 10000000) (hq : q.bd 10000000) (hr : r.bd 10000000) (hk : (into f [p, q, r]).ok = true) : Sem P 374 [(.pure, .agg (aF f)), (.pure, .one (sFs [p, q, r]))] [] (.agg (eF (into f [p, q, r]))) := by
  have okf := ok_bd.2 hf
  have okp := ok_bd.2 hp
  have okq := ok_bd.2 hq
  have okr := ok_bd.2 hr
  obtain ⟨a, b, c, d, e, k, rfl, h1, h2, h3, h4, h5, h6⟩ := bdE hf
  have b1 : (lin Form.zero p a).bd 100000000000000 := bd_mono (lin_bd (m := 0) zero_bd hp h1) (by decide)
  have e1 : addF Form.zero p a = lin Form.zero p a := addF_lin ⟨rfl, rfl⟩ hp.1
  have b2 : (lin (lin Form.zero p a) q b).bd 200000000000000 := bd_mono (lin_bd b1 hq h2) (by decide)
  have e2 : addF (addF Form.zero p a) q b = lin (lin Form.zero p a) q b := by rw [e1]; exact addF_lin b1.1 hq.1
  have b3 : (lin (lin (lin Form.zero p a) q b) r c).bd 300000000000000 := bd_mono (lin_bd b2 hr h3) (by decide)
  have e3 : addF (addF (addF Form.zero p a) q b) r c = lin (lin (lin Form.zero p a) q b) r c := by rw [e2]; exact addF_lin b2.1 hr.1
  have w1 : wide (addF Form.zero p a) := by rw [e1]; exact bd_wide b1 (by decide)
  have w2 : wide (addF (addF Form.zero p a) q b) := by rw [e2]; exact bd_wide b2 (by decide)
  have w3 : wide (addF (addF (addF Form.zero p a) q b) r c) := by rw [e3]; exact bd_wide b3 (by decide)
  have eL : addF (addF (addF (addF Form.zero p a) q b) r c) ⟨[], [d, e], k⟩ 1 = into ⟨[a, b, c], [d, e], k⟩ [p, q, r] := by
    rw [e3, into_eq]
    obtain ⟨p1, p2, p3, p4, p5, p6, rfl, _⟩ := bdE hp
    obtain ⟨q1, q2, q3, q4, q5, q6, rfl, _⟩ := bdE hq
    obtain ⟨r1, r2, r3, r4, r5, r6, rfl, _⟩ := bdE hr
    simp only [addF, addL, lin, Form.zero, List.zipWith_cons_cons, List.zipWith_nil_right, Form.mk.injEq, List.cons.injEq, and_true, true_and]
    omega
  refine fn_okR (E := { E0 with keep := [4000], fz := [(10, [640352, 640353])] }) E0_tab E0_ord (fn := Go.Proofs.Tryz.f374) (by kernel_rfl) (by kernel_rfl) (fun hb => ?_)
  conv => whnf
  repeat' first | ((first | refine Sq.cons ?_ | refine Dr.cons ?_ | refine Sq.nil ?_ | (refine Dr.nil ?_; refine drawIf (by kernel_rfl) ?_) | refine Vc.region rfl ?_ | refine Vc.draw rfl (by kernel_rfl) ?_ | refine Vc.cond ?_ | refine Vc.block ?_ | refine Vc.ret ?_ | refine Vc.skip ?_ | refine Vc.exit ?_ | refine mkSl (by omega) (by omega) ?_); conv => whnf) | refine Vc.seq ?_ | (refine ifB_i (fun _ => ?_) (fun _ => ?_) <;> conv => whnf) | (refine ⟨_, impl_frmOk ⟨[a, b, c], [d, e], k⟩, ?_⟩; conv => whnf) | (refine ⟨_, forms_any [p, q, r], ?_⟩; conv => whnf) | (refine ⟨_, impl_zero, ?_⟩; conv => whnf)
  all_goals first
    | (exfalso; simp_all; done)
    | skip
  refine Vc.loop1 (fun (i : Nat) => i ≤ 3) (fun i => updL [2, 4, 5, 22, 23, 37, 38, 39, 40, 41, 43, 44] [(24, I i)] [(256064, .box [.ref 256000, .ref 256001, eI (intoN a b c p q r i).K]), (256000, .arr 3 (ints (intoN a b c p q r i).C) false), (256001, .arr 3 (ints (intoN a b c p q r i).D) false)]) (fun i => 3 - i) 0 (by omega) ?_ (fun i hi => ?_)
  · repeat' (first | exact True.intro | ((conv => whnf); first | exact True.intro | refine ⟨by rfl, ?_⟩ | refine ⟨by first | omega | (show (_ : Int) = _; first | omega | (dsimp only; omega)), ?_⟩ | refine ⟨?_, ?_⟩))
  · match i, hi with
    | 0, _ =>
      conv => whnf
      repeat' first | ((first | refine Sq.cons ?_ | refine Dr.cons ?_ | refine Sq.nil ?_ | (refine Dr.nil ?_; refine drawIf (by kernel_rfl) ?_) | refine Vc.region rfl ?_ | refine Vc.draw rfl (by kernel_rfl) ?_ | refine Vc.cond ?_ | refine Vc.block ?_ | refine Vc.ret ?_ | refine Vc.skip ?_ | refine Vc.exit ?_ | refine mkSl (by omega) (by omega) ?_); conv => whnf) | refine Vc.seq ?_ | (refine ifB_i (fun _ => ?_) (fun _ => ?_) <;> conv => whnf) | (refine ixK rfl ?_; conv => whnf) | (refine w64 (by omega) (by omega) ?_; conv => whnf) | (refine ⟨_, _, addS Form.zero p a wide_zero hp (by omega), ?_⟩; conv => whnf)
      refine ⟨1, by omega, by simp only; omega, ?_⟩
      repeat' (first | exact True.intro | ((conv => whnf); first | exact True.intro | refine ⟨by rfl, ?_⟩ | refine ⟨by first | omega | (show (_ : Int) = _; first | omega | (dsimp only; omega)), ?_⟩ | refine ⟨?_, ?_⟩))
    | 1, _ =>
      conv => whnf
      repeat' first | ((first | refine Sq.cons ?_ | refine Dr.cons ?_ | refine Sq.nil ?_ | (refine Dr.nil ?_; refine drawIf (by kernel_rfl) ?_) | refine Vc.region rfl ?_ | refine Vc.draw rfl (by kernel_rfl) ?_ | refine Vc.cond ?_ | refine Vc.block ?_ | refine Vc.ret ?_ | refine Vc.skip ?_ | refine Vc.exit ?_ | refine mkSl (by omega) (by omega) ?_); conv => whnf) | refine Vc.seq ?_ | (refine ifB_i (fun _ => ?_) (fun _ => ?_) <;> conv => whnf) | (refine ixK rfl ?_; conv => whnf) | (refine w64 (by omega) (by omega) ?_; conv => whnf) | (refine ⟨_, _, addS (addF Form.zero p a) q b w1 hq (by omega), ?_⟩; conv => whnf)
      refine ⟨2, by omega, by simp only; omega, ?_⟩
      repeat' (first | exact True.intro | ((conv => whnf); first | exact True.intro | refine ⟨by rfl, ?_⟩ | refine ⟨by first | omega | (show (_ : Int) = _; first | omega | (dsimp only; omega)), ?_⟩ | refine ⟨?_, ?_⟩))
    | 2, _ =>
      conv => whnf
      repeat' first | ((first | refine Sq.cons ?_ | refine Dr.cons ?_ | refine Sq.nil ?_ | (refine Dr.nil ?_; refine drawIf (by kernel_rfl) ?_) | refine Vc.region rfl ?_ | refine Vc.draw rfl (by kernel_rfl) ?_ | refine Vc.cond ?_ | refine Vc.block ?_ | refine Vc.ret ?_ | refine Vc.skip ?_ | refine Vc.exit ?_ | refine mkSl (by omega) (by omega) ?_); conv => whnf) | refine Vc.seq ?_ | (refine ifB_i (fun _ => ?_) (fun _ => ?_) <;> conv => whnf) | (refine ixK rfl ?_; conv => whnf) | (refine w64 (by omega) (by omega) ?_; conv => whnf) | (refine ⟨_, _, addS (addF (addF Form.zero p a) q b) r c w2 hr (by omega), ?_⟩; conv => whnf)
      refine ⟨3, by omega, by simp only; omega, ?_⟩
      repeat' (first | exact True.intro | ((conv => whnf); first | exact True.intro | refine ⟨by rfl, ?_⟩ | refine ⟨by first | omega | (show (_ : Int) = _; first | omega | (dsimp only; omega)), ?_⟩ | refine ⟨?_, ?_⟩))
    | 3, _ =>
      conv => whnf
      repeat' first | ((first | refine Sq.cons ?_ | refine Dr.cons ?_ | refine Sq.nil ?_ | (refine Dr.nil ?_; refine drawIf (by kernel_rfl) ?_) | refine Vc.region rfl ?_ | refine Vc.draw rfl (by kernel_rfl) ?_ | refine Vc.cond ?_ | refine Vc.block ?_ | refine Vc.ret ?_ | refine Vc.skip ?_ | refine Vc.exit ?_ | refine mkSl (by omega) (by omega) ?_); conv => whnf) | refine Vc.seq ?_ | (refine ifB_i (fun _ => ?_) (fun _ => ?_) <;> conv => whnf) | (refine ⟨_, _, impl_add (addF (addF (addF Form.zero p a) q b) r c) ⟨[], [d, e], k⟩ 1 w3.2 ⟨by simp, hf.2.2.1, hf.2.2.2⟩ (by decide) (by simp) (by rw [w3.1.2]; exact Nat.le_refl _) (by rw [w3.1.1, w3.1.2]; decide), ?_⟩; conv => whnf) | (refine ⟨_, impl_checked eL hk, ?_⟩; conv => whnf)
      exact ⟨rfl, rfl⟩
end Cc
end
section
namespace Cc
open Go Go.AM
set_option maxRecDepth 100000
set_option maxHeartbeats 8000000
theorem lin_neg {p f : Form} (hp : p.sh) (hf : f.sh) : lin p (lin Form.zero f (-1)) 1 = lin p f (-1) := by
  obtain ⟨C, D, K⟩ := p
  obtain ⟨C', D', K'⟩ := f
  obtain ⟨a, b, c, rfl⟩ := len3 hp.1
  obtain ⟨d, e, rfl⟩ := len2 hp.2
  obtain ⟨a', b', c', rfl⟩ := len3 hf.1
  obtain ⟨d', e', rfl⟩ := len2 hf.2
  simp [lin, Form.zero]
theorem impl_walk (act : List Line) (h6 : act.length ≤ 6) (hok : ∀ x ∈ act, x.ok = true) : ∀ (n i : Nat), act.length - i < n → i ≤ 100 → ∀ (p q r : Form) (g t : List Form), Wk act i p q r g t → ∀ (rs : List (List AV)), rs.length + (walk (act.drop i) [p, q, r] g t).length ≤ 1000 →
    ∀ (j : Int) (rp rg rt : List (List AV)), j = i → rp = [p, q, r].map eF → rg = g.map eF → rt = t.map eF →
    Sem P 342 [(.io 0 0, .agg [fLs act, .sl 289 rs]), (.pure, I j), (.own, .one (.sl 129 rg)), (.own, .one (.sl 129 rp)), (.own, .one (.sl 129 rt))]
      [.agg [fLs act, .sl 289 (rs ++ (walk (act.drop i) [p, q, r] g t).map eW)]] (.tup []) := by
  intro n
  induction n with
  | zero => intro i h; omega
  | succ n ih =>
    intro i0 hn h100 p0 q0 r0 g0 t0 hw0 rs hrs j rp rg rt rfl rfl rfl rfl
    refine fn_okR (E := { E0 with keep := [9004, 9009, 9011, 12001, 15001, 18001], fz := [(1000000, [128, 192, 256]), (1, [768064, 768256, 960064, 1152064, 1152256]), (24, [1216386])] }) E0_tab E0_ord (fn := Go.Proofs.Tryz.f342) (by kernel_rfl) (by kernel_rfl) (fun hb => ?_)
    have la : (act.map eL).length = act.length := List.length_map ..
    conv => whnf
    (repeat' first | ((first | refine Sq.cons ?_ | refine Dr.cons ?_ | refine Sq.nil ?_ | (refine Dr.nil ?_; refine drawIf (by kernel_rfl) ?_) | refine Vc.region rfl ?_ | refine Vc.draw rfl (by kernel_rfl) ?_ | refine Vc.cond ?_ | refine Vc.block ?_ | refine Vc.ret ?_ | refine Vc.skip ?_ | refine Vc.exit ?_ | refine mkSl (by omega) (by omega) ?_); conv => whnf) | refine Vc.seq ?_)
    refine Vc.loop6 (fun (i : Nat) (ps g t : List Form) (d : List Row) (_ : Unit) => ∃ p q r, ps = [p, q, r] ∧ i ≤ 100 ∧ act.length - i < n + 1 ∧ Wk act i p q r g t ∧ d ++ walk (act.drop i) [p, q, r] g t = walk (act.drop i0) [p0, q0, r0] g0 t0)
      (fun i ps g t d _ => updL [0, 13, 14, 15, 105, 106, 107, 108, 109, 110, 111, 112, 113, 114, 115, 116, 117, 118, 119, 120, 121, 122, 123, 124, 125, 126, 127, 128, 129, 130, 131, 132, 133, 134, 135, 136, 137] [(1, I i), (2, .one (fFs g)), (3, .one (fFs ps)), (4, .one (fFs t))] [(63, .box [fLs act, .ref 1]), (1, .arr 289 (rs ++ d.map eW) false)]) (fun i _ _ _ _ _ => act.length - i) i0 [p0, q0, r0] g0 t0 [] () ⟨p0, q0, r0, rfl, h100, hn, hw0, rfl⟩ ?_ (fun i ps g t d _ hs => ?_)
    · repeat' (first | exact True.intro | ((conv => whnf); first | exact True.intro | refine ⟨by rfl, ?_⟩ | refine ⟨by first | omega | (show (_ : Int) = _; first | omega | (dsimp only; omega)) | exact by simp, ?_⟩ | refine ⟨?_, ?_⟩))
    · obtain ⟨p, q, r, rfl, h100', hn', w, hW⟩ := hs
      have wp := w.pots
      have wl := w.lists
      have m7 : ∀ {f : Form}, f.bd 1000000 → f.bd 10000000 := fun h => bd_mono h (by decide)
      have m8 : ∀ {f : Form}, f.bd 588246 → f.bd 10000000 := fun h => bd_mono h (by decide)
      have sg : shs g := ⟨by have := wl.1.1; omega, fun f hf => (wl.1.2 f hf).1⟩
      have st : shs t := ⟨by have := wl.2.1; omega, fun f hf => (wl.2.2 f hf).1⟩
      have sps : shs [p, q, r] := ⟨by simp, by simp only [List.mem_cons, List.not_mem_nil, or_false]; rintro f (rfl | rfl | rfl); exact wp.1.1; exact wp.2.1.1; exact wp.2.2.1⟩
      have hln := congrArg List.length hW
      rw [List.length_append] at hln
      conv => whnf
      (repeat' first | ((first | refine Sq.cons ?_ | refine Dr.cons ?_ | refine Sq.nil ?_ | (refine Dr.nil ?_; refine drawIf (by kernel_rfl) ?_) | refine Vc.region rfl ?_ | refine Vc.draw rfl (by kernel_rfl) ?_ | refine Vc.cond ?_ | refine Vc.block ?_ | refine Vc.ret ?_ | refine Vc.skip ?_ | refine Vc.exit ?_ | refine mkSl (by omega) (by omega) ?_); conv => whnf) | refine Vc.seq ?_)
      refine ifB_d (fun gd => ?_) (fun gd => ?_)
      all_goals conv => whnf
      · have hil : i < act.length := by omega
        have hx := hok (act.getD i default) (gd_mem hil)
        by_cases h4 : (act.getD i default).Kind = 4
        · rw [walk_stop hil h4] at hln
          repeat' first | ((first | refine Sq.cons ?_ | refine Dr.cons ?_ | refine Sq.nil ?_ | (refine Dr.nil ?_; refine drawIf (by kernel_rfl) ?_) | refine Vc.region rfl ?_ | refine Vc.draw rfl (by kernel_rfl) ?_ | refine Vc.cond ?_ | refine Vc.block ?_ | refine Vc.ret ?_ | refine Vc.skip ?_ | refine Vc.exit ?_ | refine mkSl (by omega) (by omega) ?_); conv => whnf) | refine Vc.seq ?_ | (refine ifB_i (fun _ => ?_) (fun _ => ?_) <;> conv => whnf) | (refine ixN (enc := eL) default hil ?_; conv => whnf) | (refine ⟨_, impl_forms g sg, ?_⟩; conv => whnf) | (refine apN (by simp only [List.length_append, List.length_map, List.length_cons, List.length_nil] at hln ⊢; omega) ?_; conv => whnf)
          · exact ⟨rfl, by rw [← hW, walk_stop hil h4]; simp⟩
          all_goals (exfalso; simp_all; done)
        · have hs := line_small hx h4
          have wi := w.into hil hs
          have wm := w.minus hil hs
          have fb : (act.getD i default).Form.bd 10000000 := (small_form hs).1
          rcases line_kind hx with hk | hk | hk | hk
          · have hsk := line_skip hx hk
            rw [walk_test hil hk, List.length_append] at hln
            have ihy := ih (i + 1) (by omega) (by omega) p q r (g ++ [into (act.getD i default).Form [p, q, r]]) t (w.on hil hs (by omega) (.inr ⟨_, wi, rfl⟩) (.inl rfl)) (rs ++ d.map eW) (by simp only [List.length_append, List.length_map]; omega)
            have b1 := lin_bd (k := 1) zero_bd wi (n := -1) (by decide)
            have hK := b1.2.2.2
            have es : ((i + 1 + (act.getD i default).Skip.toNat : Nat) : Int) = i + (act.getD i default).Skip + 1 := by omega
            repeat' first | ((first | refine Sq.cons ?_ | refine Dr.cons ?_ | refine Sq.nil ?_ | (refine Dr.nil ?_; refine drawIf (by kernel_rfl) ?_) | refine Vc.region rfl ?_ | refine Vc.draw rfl (by kernel_rfl) ?_ | refine Vc.cond ?_ | refine Vc.block ?_ | refine Vc.ret ?_ | refine Vc.skip ?_ | refine Vc.exit ?_ | refine mkSl (by omega) (by omega) ?_); conv => whnf) | refine Vc.seq ?_ | (refine ifB_i (fun _ => ?_) (fun _ => ?_) <;> conv => whnf) | (refine ixN (enc := eL) default hil ?_; conv => whnf) | (refine ⟨_, impl_into (act.getD i default).Form p q r fb (m7 wp.1) (m7 wp.2.1) (m7 wp.2.2) (ok_bd.2 (m8 wi)), ?_⟩; conv => whnf) | (refine ⟨_, impl_forms g sg, ?_⟩; conv => whnf) | (refine ⟨_, impl_forms t st, ?_⟩; conv => whnf) | (refine ⟨_, impl_forms [p, q, r] sps, ?_⟩; conv => whnf) | (refine w64 (by omega) (by omega) ?_; conv => whnf) | (refine ⟨_, _, ihy _ _ _ _ (by omega) rfl (by simp) rfl, ?_⟩; conv => whnf) | (refine ⟨_, impl_times (into (act.getD i default).Form [p, q, r]) (-1) (m8 wi) (by decide) (bd_ok b1 (by decide)), ?_⟩; conv => whnf) | (refine apN (by first | (simp only [List.length_map]; omega) | (simp; omega) | (exfalso; simp_all; done)) ?_; conv => whnf)
            all_goals first
              | (exfalso; simp_all; done)
              | skip
            refine ⟨i + 1 + (act.getD i default).Skip.toNat, [p, q, r], g ++ [minus (into (act.getD i default).Form [p, q, r])], t, d ++ walk (act.drop (i + 1)) [p, q, r] (g ++ [into (act.getD i default).Form [p, q, r]]) t, (), ⟨p, q, r, rfl, by omega, by omega, w.on hil hs (by omega) (.inr ⟨_, wm, rfl⟩) (.inl rfl), by rw [← hW, walk_test hil hk, List.append_assoc]⟩, show act.length - (i + 1 + (act.getD i default).Skip.toNat) < act.length - i from by omega, ?_⟩
            repeat' (first | exact True.intro | ((conv => whnf); first | exact True.intro | refine ⟨by rfl, ?_⟩ | refine ⟨by first | omega | (show (_ : Int) = _; first | omega | (dsimp only; omega)) | exact (List.map_append (f := eF) (l₁ := g) (l₂ := [minus (into (act.getD i default).Form [p, q, r])])).symm | exact es.symm | exact by simp, ?_⟩ | refine ⟨?_, ?_⟩))
          · obtain ⟨hp0, hp2⟩ := line_pot hx hk
            rw [walk_add hil hk] at hln
            have ok1 : ∀ {x : Form}, (x = p ∨ x = q ∨ x = r) → (lin x (into (act.getD i default).Form [p, q, r]) 1).ok = true := fun h => bd_ok (w.sum hil hs h) (by decide)
            have hpot : (act.getD i default).Pot = 0 ∨ (act.getD i default).Pot = 1 ∨ (act.getD i default).Pot = 2 := by omega
            rcases hpot with hpot | hpot | hpot
            all_goals repeat' first | ((first | refine Sq.cons ?_ | refine Dr.cons ?_ | refine Sq.nil ?_ | (refine Dr.nil ?_; refine drawIf (by kernel_rfl) ?_) | refine Vc.region rfl ?_ | refine Vc.draw rfl (by kernel_rfl) ?_ | refine Vc.cond ?_ | refine Vc.block ?_ | refine Vc.ret ?_ | refine Vc.skip ?_ | refine Vc.exit ?_ | refine mkSl (by omega) (by omega) ?_); conv => whnf) | refine Vc.seq ?_ | (refine ifB_i (fun _ => ?_) (fun _ => ?_) <;> conv => whnf) | (refine ixN (enc := eL) default hil ?_; conv => whnf) | (refine ⟨_, impl_into (act.getD i default).Form p q r fb (m7 wp.1) (m7 wp.2.1) (m7 wp.2.2) (ok_bd.2 (m8 wi)), ?_⟩; conv => whnf) | (refine ⟨_, impl_forms g sg, ?_⟩; conv => whnf) | (refine ⟨_, impl_forms t st, ?_⟩; conv => whnf) | (refine ⟨_, impl_forms [p, q, r] sps, ?_⟩; conv => whnf) | (refine w64 (by omega) (by omega) ?_; conv => whnf) | (refine ⟨_, impl_frmAdd p (into (act.getD i default).Form [p, q, r]) (m7 wp.1) (m8 wi) (ok1 (.inl rfl)), ?_⟩; conv => whnf) | (refine ⟨_, impl_frmAdd q (into (act.getD i default).Form [p, q, r]) (m7 wp.2.1) (m8 wi) (ok1 (.inr (.inl rfl))), ?_⟩; conv => whnf) | (refine ⟨_, impl_frmAdd r (into (act.getD i default).Form [p, q, r]) (m7 wp.2.2) (m8 wi) (ok1 (.inr (.inr rfl))), ?_⟩; conv => whnf) | ((rw [hpot]; conv => whnf)) | (refine ioN (by decide) (by simp) ?_; conv => whnf) | (refine rwC rfl ?_; conv => whnf)
            all_goals first
              | (exfalso; simp_all; done)
              | skip
            · refine ⟨i + 1, [lin p (into (act.getD i default).Form [p, q, r]) 1, q, r], g, t, d, (), ⟨_, _, _, rfl, by omega, by omega, w.add hil hs (.inr rfl) (.inl rfl) (.inl rfl), by rw [← hW, walk_add hil hk, hpot]; rfl⟩, show act.length - (i + 1) < act.length - i from by omega, ?_⟩
              repeat' (first | exact True.intro | ((conv => whnf); first | exact True.intro | refine ⟨by rfl, ?_⟩ | refine ⟨by first | omega | (show (_ : Int) = _; first | omega | (dsimp only; omega)), ?_⟩ | refine ⟨?_, ?_⟩))
            · refine ⟨i + 1, [p, lin q (into (act.getD i default).Form [p, q, r]) 1, r], g, t, d, (), ⟨_, _, _, rfl, by omega, by omega, w.add hil hs (.inl rfl) (.inr rfl) (.inl rfl), by rw [← hW, walk_add hil hk, hpot]; rfl⟩, show act.length - (i + 1) < act.length - i from by omega, ?_⟩
              repeat' (first | exact True.intro | ((conv => whnf); first | exact True.intro | refine ⟨by rfl, ?_⟩ | refine ⟨by first | omega | (show (_ : Int) = _; first | omega | (dsimp only; omega)), ?_⟩ | refine ⟨?_, ?_⟩))
            · refine ⟨i + 1, [p, q, lin r (into (act.getD i default).Form [p, q, r]) 1], g, t, d, (), ⟨_, _, _, rfl, by omega, by omega, w.add hil hs (.inl rfl) (.inl rfl) (.inr rfl), by rw [← hW, walk_add hil hk, hpot]; rfl⟩, show act.length - (i + 1) < act.length - i from by omega, ?_⟩
              repeat' (first | exact True.intro | ((conv => whnf); first | exact True.intro | refine ⟨by rfl, ?_⟩ | refine ⟨by first | omega | (show (_ : Int) = _; first | omega | (dsimp only; omega)), ?_⟩ | refine ⟨?_, ?_⟩))
          · rw [walk_tell hil hk] at hln
            repeat' first | ((first | refine Sq.cons ?_ | refine Dr.cons ?_ | refine Sq.nil ?_ | (refine Dr.nil ?_; refine drawIf (by kernel_rfl) ?_) | refine Vc.region rfl ?_ | refine Vc.draw rfl (by kernel_rfl) ?_ | refine Vc.cond ?_ | refine Vc.block ?_ | refine Vc.ret ?_ | refine Vc.skip ?_ | refine Vc.exit ?_ | refine mkSl (by omega) (by omega) ?_); conv => whnf) | refine Vc.seq ?_ | (refine ifB_i (fun _ => ?_) (fun _ => ?_) <;> conv => whnf) | (refine ixN (enc := eL) default hil ?_; conv => whnf) | (refine ⟨_, impl_into (act.getD i default).Form p q r fb (m7 wp.1) (m7 wp.2.1) (m7 wp.2.2) (ok_bd.2 (m8 wi)), ?_⟩; conv => whnf) | (refine ⟨_, impl_forms g sg, ?_⟩; conv => whnf) | (refine ⟨_, impl_forms t st, ?_⟩; conv => whnf) | (refine ⟨_, impl_forms [p, q, r] sps, ?_⟩; conv => whnf) | (refine w64 (by omega) (by omega) ?_; conv => whnf) | (refine apN (by first | (simp only [List.length_map]; omega) | (simp; omega) | (exfalso; simp_all; done)) ?_; conv => whnf)
            all_goals first
              | (exfalso; simp_all; done)
              | skip
            refine ⟨i + 1, [p, q, r], g, t ++ [into (act.getD i default).Form [p, q, r]], d, (), ⟨_, _, _, rfl, by omega, by omega, w.on hil hs (by omega) (.inl rfl) (.inr ⟨_, wi, rfl⟩), by rw [← hW, walk_tell hil hk]⟩, show act.length - (i + 1) < act.length - i from by omega, ?_⟩
            repeat' (first | exact True.intro | ((conv => whnf); first | exact True.intro | refine ⟨by rfl, ?_⟩ | refine ⟨by first | omega | (show (_ : Int) = _; first | omega | (dsimp only; omega)) | exact (List.map_append (f := eF) (l₁ := t) (l₂ := [into (act.getD i default).Form [p, q, r]])).symm, ?_⟩ | refine ⟨?_, ?_⟩))
          · exact absurd hk h4
      · repeat' first | ((first | refine Sq.cons ?_ | refine Dr.cons ?_ | refine Sq.nil ?_ | (refine Dr.nil ?_; refine drawIf (by kernel_rfl) ?_) | refine Vc.region rfl ?_ | refine Vc.draw rfl (by kernel_rfl) ?_ | refine Vc.cond ?_ | refine Vc.block ?_ | refine Vc.ret ?_ | refine Vc.skip ?_ | refine Vc.exit ?_ | refine mkSl (by omega) (by omega) ?_); conv => whnf) | refine Vc.seq ?_ | (refine ifB_i (fun _ => ?_) (fun _ => ?_) <;> conv => whnf) | (refine ⟨_, impl_forms g sg, ?_⟩; conv => whnf) | (refine ⟨_, impl_forms t st, ?_⟩; conv => whnf)
        have oz : ∀ v, (lin Form.zero (Form.pot v) (-1)).bd 1 := fun v => bd_mono (lin_bd (k := 1) zero_bd (pot_bd v) (by decide)) (by decide)
        have pz : ∀ v, (Form.pot v).bd 10000000 := fun v => bd_mono (pot_bd v) (by decide)
        have oa : ∀ {x : Form} (v : Nat), x.bd 1000000 → (lin x (lin Form.zero (Form.pot v) (-1)) 1).ok = true := fun v h => bd_ok (lin_bd (k := 1) h (oz v) (by decide)) (by decide)
        rw [walk_end (by omega)] at hln hW
        refine Vc.loop1 (fun (v : Nat) => v ≤ 3) (fun v => updL [0, 13, 110, 111, 128, 129, 130, 131, 132, 133, 134, 135, 136, 137] [(112, I v)] [(1216320, .box [fFs g, .ref 1216386, fFs t, eB false]), (1216386, .arr 129 (([lin p (lin Form.zero (Form.pot 0) (-1)) 1, lin q (lin Form.zero (Form.pot 1) (-1)) 1, lin r (lin Form.zero (Form.pot 2) (-1)) 1].take v).map eF) false)]) (fun v => 3 - v) 0 (by omega) ?_ (fun v hv => ?_)
        · repeat' (first | exact True.intro | ((conv => whnf); first | exact True.intro | refine ⟨by rfl, ?_⟩ | refine ⟨by first | omega | (show (_ : Int) = _; first | omega | (dsimp only; omega)), ?_⟩ | refine ⟨?_, ?_⟩))
        · match v, hv with
          | 0, _ =>
            conv => whnf
            repeat' first | ((first | refine Sq.cons ?_ | refine Dr.cons ?_ | refine Sq.nil ?_ | (refine Dr.nil ?_; refine drawIf (by kernel_rfl) ?_) | refine Vc.region rfl ?_ | refine Vc.draw rfl (by kernel_rfl) ?_ | refine Vc.cond ?_ | refine Vc.block ?_ | refine Vc.ret ?_ | refine Vc.skip ?_ | refine Vc.exit ?_ | refine mkSl (by omega) (by omega) ?_); conv => whnf) | refine Vc.seq ?_ | (refine ifB_i (fun _ => ?_) (fun _ => ?_) <;> conv => whnf) | (refine ixK rfl ?_; conv => whnf) | (refine w64 (by omega) (by omega) ?_; conv => whnf) | (refine ⟨_, impl_pot 0 (by decide), ?_⟩; conv => whnf) | (refine ⟨_, impl_times (Form.pot 0) (-1) (pz _) (by decide) (bd_ok (oz _) (by decide)), ?_⟩; conv => whnf) | (refine ⟨_, impl_frmAdd p (lin Form.zero (Form.pot 0) (-1)) (m7 wp.1) (bd_mono (oz _) (by decide)) (oa _ wp.1), ?_⟩; conv => whnf) | (refine apN (by simp) ?_; conv => whnf)
            refine ⟨1, by omega, by simp only; omega, ?_⟩
            repeat' (first | exact True.intro | ((conv => whnf); first | exact True.intro | refine ⟨by rfl, ?_⟩ | refine ⟨by first | omega | (show (_ : Int) = _; first | omega | (dsimp only; omega)), ?_⟩ | refine ⟨?_, ?_⟩))
          | 1, _ =>
            conv => whnf
            repeat' first | ((first | refine Sq.cons ?_ | refine Dr.cons ?_ | refine Sq.nil ?_ | (refine Dr.nil ?_; refine drawIf (by kernel_rfl) ?_) | refine Vc.region rfl ?_ | refine Vc.draw rfl (by kernel_rfl) ?_ | refine Vc.cond ?_ | refine Vc.block ?_ | refine Vc.ret ?_ | refine Vc.skip ?_ | refine Vc.exit ?_ | refine mkSl (by omega) (by omega) ?_); conv => whnf) | refine Vc.seq ?_ | (refine ifB_i (fun _ => ?_) (fun _ => ?_) <;> conv => whnf) | (refine ixK rfl ?_; conv => whnf) | (refine w64 (by omega) (by omega) ?_; conv => whnf) | (refine ⟨_, impl_pot 1 (by decide), ?_⟩; conv => whnf) | (refine ⟨_, impl_times (Form.pot 1) (-1) (pz _) (by decide) (bd_ok (oz _) (by decide)), ?_⟩; conv => whnf) | (refine ⟨_, impl_frmAdd q (lin Form.zero (Form.pot 1) (-1)) (m7 wp.2.1) (bd_mono (oz _) (by decide)) (oa _ wp.2.1), ?_⟩; conv => whnf) | (refine apN (by simp) ?_; conv => whnf)
            refine ⟨2, by omega, by simp only; omega, ?_⟩
            repeat' (first | exact True.intro | ((conv => whnf); first | exact True.intro | refine ⟨by rfl, ?_⟩ | refine ⟨by first | omega | (show (_ : Int) = _; first | omega | (dsimp only; omega)), ?_⟩ | refine ⟨?_, ?_⟩))
          | 2, _ =>
            conv => whnf
            repeat' first | ((first | refine Sq.cons ?_ | refine Dr.cons ?_ | refine Sq.nil ?_ | (refine Dr.nil ?_; refine drawIf (by kernel_rfl) ?_) | refine Vc.region rfl ?_ | refine Vc.draw rfl (by kernel_rfl) ?_ | refine Vc.cond ?_ | refine Vc.block ?_ | refine Vc.ret ?_ | refine Vc.skip ?_ | refine Vc.exit ?_ | refine mkSl (by omega) (by omega) ?_); conv => whnf) | refine Vc.seq ?_ | (refine ifB_i (fun _ => ?_) (fun _ => ?_) <;> conv => whnf) | (refine ixK rfl ?_; conv => whnf) | (refine w64 (by omega) (by omega) ?_; conv => whnf) | (refine ⟨_, impl_pot 2 (by decide), ?_⟩; conv => whnf) | (refine ⟨_, impl_times (Form.pot 2) (-1) (pz _) (by decide) (bd_ok (oz _) (by decide)), ?_⟩; conv => whnf) | (refine ⟨_, impl_frmAdd r (lin Form.zero (Form.pot 2) (-1)) (m7 wp.2.2) (bd_mono (oz _) (by decide)) (oa _ wp.2.2), ?_⟩; conv => whnf) | (refine apN (by simp) ?_; conv => whnf)
            refine ⟨3, by omega, by simp only; omega, ?_⟩
            repeat' (first | exact True.intro | ((conv => whnf); first | exact True.intro | refine ⟨by rfl, ?_⟩ | refine ⟨by first | omega | (show (_ : Int) = _; first | omega | (dsimp only; omega)), ?_⟩ | refine ⟨?_, ?_⟩))
          | 3, _ =>
            conv => whnf
            repeat' first | ((first | refine Sq.cons ?_ | refine Dr.cons ?_ | refine Sq.nil ?_ | (refine Dr.nil ?_; refine drawIf (by kernel_rfl) ?_) | refine Vc.region rfl ?_ | refine Vc.draw rfl (by kernel_rfl) ?_ | refine Vc.cond ?_ | refine Vc.block ?_ | refine Vc.ret ?_ | refine Vc.skip ?_ | refine Vc.exit ?_ | refine mkSl (by omega) (by omega) ?_); conv => whnf) | refine Vc.seq ?_ | (refine ifB_i (fun _ => ?_) (fun _ => ?_) <;> conv => whnf) | (refine apN (by simp at hln ⊢; omega) ?_; conv => whnf)
            have er : rowEnd [p, q, r] g t = ⟨g, [lin p (lin Form.zero (Form.pot 0) (-1)) 1, lin q (lin Form.zero (Form.pot 1) (-1)) 1, lin r (lin Form.zero (Form.pot 2) (-1)) 1], t, false⟩ := by
              rw [lin_neg wp.1.1 (pot_bd 0).1, lin_neg wp.2.1.1 (pot_bd 1).1, lin_neg wp.2.2.1 (pot_bd 2).1]; rfl
            refine ⟨rfl, ?_⟩
            rw [← hW, er, List.map_append, ← List.append_assoc]
            rfl
theorem impl_rowsOf (act : List Line) : Sem P 289 [(.pure, .one (sLs act))] [] (.one (sWs (rowsOf act))) := by
  by_cases ha : actOk act = true
  · obtain ⟨hok, h6, _⟩ := actOk_iff.1 ha
    have hl := walk_len 6 (act.drop 0) (by simpa using h6) [Form.pot 0, Form.pot 1, Form.pot 2] [] []
    have hw := impl_walk act h6 hok 7 0 (by omega) (by decide) (Form.pot 0) (Form.pot 1) (Form.pot 2) [] [] (Wk.start h6) [] (by simp only [List.length_nil]; omega)
    refine fn_okR (E := E0) E0_tab E0_ord (fn := Go.Proofs.Tryz.f289) (by kernel_rfl) (by kernel_rfl) (fun hb => ?_)
    conv => whnf
    repeat' first | ((first | refine Sq.cons ?_ | refine Dr.cons ?_ | refine Sq.nil ?_ | (refine Dr.nil ?_; refine drawIf (by kernel_rfl) ?_) | refine Vc.region rfl ?_ | refine Vc.draw rfl (by kernel_rfl) ?_ | refine Vc.cond ?_ | refine Vc.block ?_ | refine Vc.ret ?_ | refine Vc.skip ?_ | refine Vc.exit ?_ | refine mkSl (by omega) (by omega) ?_); conv => whnf) | refine Vc.seq ?_ | (refine ifB_i (fun _ => ?_) (fun _ => ?_) <;> conv => whnf) | (refine ⟨_, impl_actOk act, ?_⟩; conv => whnf)
    · exfalso; simp_all
    · refine Vc.loop1 (fun (v : Nat) => v ≤ 3) (fun v => updL [2, 3, 21, 22, 24, 25, 26, 27] [(12, I v), (4, .one (.ref 320000))] [(320000, .arr 129 (([Form.pot 0, Form.pot 1, Form.pot 2].take v).map eF) false)]) (fun v => 3 - v) 0 (by omega) ?_ (fun v hv => ?_)
      · repeat' (first | exact True.intro | ((conv => whnf); first | exact True.intro | refine ⟨by rfl, ?_⟩ | refine ⟨by first | omega | (show (_ : Int) = _; first | omega | (dsimp only; omega)), ?_⟩ | refine ⟨?_, ?_⟩))
      · match v, hv with
        | 0, _ =>
          conv => whnf
          repeat' first | ((first | refine Sq.cons ?_ | refine Dr.cons ?_ | refine Sq.nil ?_ | (refine Dr.nil ?_; refine drawIf (by kernel_rfl) ?_) | refine Vc.region rfl ?_ | refine Vc.draw rfl (by kernel_rfl) ?_ | refine Vc.cond ?_ | refine Vc.block ?_ | refine Vc.ret ?_ | refine Vc.skip ?_ | refine Vc.exit ?_ | refine mkSl (by omega) (by omega) ?_); conv => whnf) | refine Vc.seq ?_ | (refine ifB_i (fun _ => ?_) (fun _ => ?_) <;> conv => whnf) | (refine w64 (by omega) (by omega) ?_; conv => whnf) | (refine ⟨_, impl_pot 0 (by decide), ?_⟩; conv => whnf) | (refine apN (by simp) ?_; conv => whnf)
          refine ⟨1, by omega, by simp only; omega, ?_⟩
          repeat' (first | exact True.intro | ((conv => whnf); first | exact True.intro | refine ⟨by rfl, ?_⟩ | refine ⟨by first | omega | (show (_ : Int) = _; first | omega | (dsimp only; omega)), ?_⟩ | refine ⟨?_, ?_⟩))
        | 1, _ =>
          conv => whnf
          repeat' first | ((first | refine Sq.cons ?_ | refine Dr.cons ?_ | refine Sq.nil ?_ | (refine Dr.nil ?_; refine drawIf (by kernel_rfl) ?_) | refine Vc.region rfl ?_ | refine Vc.draw rfl (by kernel_rfl) ?_ | refine Vc.cond ?_ | refine Vc.block ?_ | refine Vc.ret ?_ | refine Vc.skip ?_ | refine Vc.exit ?_ | refine mkSl (by omega) (by omega) ?_); conv => whnf) | refine Vc.seq ?_ | (refine ifB_i (fun _ => ?_) (fun _ => ?_) <;> conv => whnf) | (refine w64 (by omega) (by omega) ?_; conv => whnf) | (refine ⟨_, impl_pot 1 (by decide), ?_⟩; conv => whnf) | (refine apN (by simp) ?_; conv => whnf)
          refine ⟨2, by omega, by simp only; omega, ?_⟩
          repeat' (first | exact True.intro | ((conv => whnf); first | exact True.intro | refine ⟨by rfl, ?_⟩ | refine ⟨by first | omega | (show (_ : Int) = _; first | omega | (dsimp only; omega)), ?_⟩ | refine ⟨?_, ?_⟩))
        | 2, _ =>
          conv => whnf
          repeat' first | ((first | refine Sq.cons ?_ | refine Dr.cons ?_ | refine Sq.nil ?_ | (refine Dr.nil ?_; refine drawIf (by kernel_rfl) ?_) | refine Vc.region rfl ?_ | refine Vc.draw rfl (by kernel_rfl) ?_ | refine Vc.cond ?_ | refine Vc.block ?_ | refine Vc.ret ?_ | refine Vc.skip ?_ | refine Vc.exit ?_ | refine mkSl (by omega) (by omega) ?_); conv => whnf) | refine Vc.seq ?_ | (refine ifB_i (fun _ => ?_) (fun _ => ?_) <;> conv => whnf) | (refine w64 (by omega) (by omega) ?_; conv => whnf) | (refine ⟨_, impl_pot 2 (by decide), ?_⟩; conv => whnf) | (refine apN (by simp) ?_; conv => whnf)
          refine ⟨3, by omega, by simp only; omega, ?_⟩
          repeat' (first | exact True.intro | ((conv => whnf); first | exact True.intro | refine ⟨by rfl, ?_⟩ | refine ⟨by first | omega | (show (_ : Int) = _; first | omega | (dsimp only; omega)), ?_⟩ | refine ⟨?_, ?_⟩))
        | 3, _ =>
          conv => whnf
          repeat' first | ((first | refine Sq.cons ?_ | refine Dr.cons ?_ | refine Sq.nil ?_ | (refine Dr.nil ?_; refine drawIf (by kernel_rfl) ?_) | refine Vc.region rfl ?_ | refine Vc.draw rfl (by kernel_rfl) ?_ | refine Vc.cond ?_ | refine Vc.block ?_ | refine Vc.ret ?_ | refine Vc.skip ?_ | refine Vc.exit ?_ | refine mkSl (by omega) (by omega) ?_); conv => whnf) | refine Vc.seq ?_ | (refine ifB_i (fun _ => ?_) (fun _ => ?_) <;> conv => whnf) | (refine ⟨_, _, hw _ _ _ _ rfl rfl rfl rfl, ?_⟩; conv => whnf)
          exact ⟨by rw [rowsOf, if_pos ha]; rfl, rfl⟩
  · refine fn_okR (E := E0) E0_tab E0_ord (fn := Go.Proofs.Tryz.f289) (by kernel_rfl) (by kernel_rfl) (fun hb => ?_)
    conv => whnf
    repeat' first | ((first | refine Sq.cons ?_ | refine Dr.cons ?_ | refine Sq.nil ?_ | (refine Dr.nil ?_; refine drawIf (by kernel_rfl) ?_) | refine Vc.region rfl ?_ | refine Vc.draw rfl (by kernel_rfl) ?_ | refine Vc.cond ?_ | refine Vc.block ?_ | refine Vc.ret ?_ | refine Vc.skip ?_ | refine Vc.exit ?_ | refine mkSl (by omega) (by omega) ?_); conv => whnf) | refine Vc.seq ?_ | (refine ifB_i (fun _ => ?_) (fun _ => ?_) <;> conv => whnf) | (refine ⟨_, impl_actOk act, ?_⟩; conv => whnf)
    · exact ⟨by rw [rowsOf, if_neg ha]; rfl, rfl⟩
    · exfalso; simp_all
end Cc
end
