/- The law FnExactSerSame (part 3 of 7). Conditions: none beyond the statement's own. -/
import Derived.IntWalk
import Derived.Test.YtjkemkpghacdoaaGreatDoorProg
import Derived.ProofKit
import Derived.OpenShut
import Derived.ShutString
import Derived.ChangeOld
import Derived.Below
import Derived.Carry
import Derived.SizedLaws
import Derived.Lib.LaidTab
import Derived.Lib.LaidU8
import Derived.LaidMore
import Derived.Handed
import Derived.MakeChecks
import Derived.Lay
import Derived.LaidOnce
import Derived.SevenTiedAt
import Derived.ChangeArms
import Derived.DataReads
import Derived.Shelf.Strings.Builder1
import Derived.Shelf.Strings.BuilderF
import Derived.Shelf.Strings.BuilderK
import Derived.Shelf.Strconv.Itoa0
import Derived.Shelf.Strconv.Itoa1
import Derived.Shelf.LaysM
import Derived.Shelf.Strconv.Itoa2
import Derived.Shelf.Strconv.Itoa3
import Derived.Shelf.Strings.BuilderCap
import Derived.Shelf.Slices.Equal
import Derived.Ground.Names2Prog
import Derived.Shelf.Slices.Clone
import Derived.Shelf.Slices.Empties2
import Derived.Ground.SlgnProg
import Derived.Shelf.SlicesE.Clone
import Derived.Test.YtjkemkpghacdoaaGreatDoorEsa2
set_option linter.unusedVariables false
set_option linter.unusedSimpArgs false
section
namespace Go.AM
open Go
set_option linter.unusedVariables false
def enumF : Nat → List (Mode × TV) → List (Nat × Mode × TV)
  | _, [] => []
  | j, (m, v) :: r => (j, m, v) :: enumF (j + 1) r
section
variable {P : Program} {w : World} {Z : Nat → Prop}
def Arrs (P : Program) (w : World) (Z : Nat → Prop) (ps : List Plc) (f : List Nat) : Prop :=
  (∀ p ∈ ps, ∃ t rows q, p.o = .arr t rows q ∧ Ow P w Z (.sl t rows) p.h p.f) ∧ (ps.flatMap (·.f)).Sublist f
theorem Arrs.append {ps qs : List Plc} {f g : List Nat} (h : Arrs P w Z ps f) (h' : Arrs P w Z qs g) : Arrs P w Z (ps ++ qs) (f ++ g) :=
  ⟨fun p hp => (List.mem_append.1 hp).elim (h.1 p) (h'.1 p), by rw [List.flatMap_append]; exact h.2.append h'.2⟩
theorem Arrs.nil {f : List Nat} : Arrs P w Z [] f := ⟨by simp, by simp⟩
theorem rd_fr {t : Nat} {rows : List (List AV)} {x : Value} {st : St} {pl : Pl} (h : Rd P w Z (.sl t rows) x) : Ar P st pl Z w (.fr [] t rows) x :=
  fun _ => h.mono (fun b hb => .inl hb) fun _ _ => rfl
theorem rd_fp {ns : List Nat} {row : List AV} {off : Nat} {x : Value} {st : St} {pl : Pl} (h : Rd P w Z (.fp ns row off) x) : Ar P st pl Z w (.fp [] row off) x := by
  intro _
  cases h with
  | fp hb hn hc hr => exact (Rd.fp (ns := []) hb hn hc hr).mono (fun b hb => .inl hb) fun _ _ => rfl
theorem rd_cap {av : AV} {x : Value} {st : St} {pl : Pl} (h : Rd P w Z av x) : A0 P st pl Z w (capF av) x := by
  cases h with
  | prim h => exact ⟨rfl, h⟩
  | fp hb hn hc hr => exact fun _ => (Rd.fp (ns := []) hb hn hc hr).mono (fun b hb => .inl hb) fun _ _ => rfl
  | sl hm hl hcap hw hn hb hc hr => exact fun _ => (Rd.sl hm hl hcap hw hn hb hc hr).mono (fun b hb => .inl hb) fun _ _ => rfl
  | _ => trivial
theorem par_rd {n : Nat} {pin : Bool} {av : AV} {x : Value} (h : Rd P w Z av x) : (par1 n pin false av).2 = [] ∧ (∀ u, (par1 n pin false av).1.inU u = true) ∧ ∀ st pl, Ar P st pl Z w (par1 n pin false av).1 x := by
  cases h with
  | prim h => exact ⟨rfl, fun _ => rfl, fun _ _ => ⟨rfl, h⟩⟩
  | emp => exact ⟨rfl, fun _ => rfl, fun _ _ => trivial⟩
  | sl hm hl hcap hw hn hb hc hr => exact ⟨rfl, fun _ => rfl, fun _ _ => rd_fr (.sl hm hl hcap hw hn hb hc hr)⟩
  | fr h => exact ⟨rfl, fun _ => rfl, fun _ _ => rd_fr h⟩
  | fp hb hn hc hr => exact ⟨rfl, fun _ => rfl, fun _ _ => rd_fp (.fp (ns := []) hb hn hc hr)⟩
  | @fn f caps arr hn hr =>
    refine ⟨rfl, fun u => ?_, fun st pl => ⟨arr, rfl, by simp [hn], fun k av y hk hy => ?_⟩⟩
    · simp only [par1, cond_false, AV.inU, List.all_eq_true, List.mem_map]
      rintro a ⟨b, _, rfl⟩
      cases b <;> rfl
    · rw [List.getElem?_map] at hk
      obtain ⟨av', h1, rfl⟩ := Option.map_eq_some_iff.1 hk
      exact rd_cap (hr k av' y h1 hy)
theorem par_ow {n : Nat} {pin : Bool} {av : AV} {x : Value} {f : List Nat} (h : Ow P w Z av x f) : ∃ ps : List Plc, (par1 n pin true av).2 = ps.map (fun p => (p.n, p.o)) ∧ Arrs P w Z ps f ∧
    (∀ u, (∀ p ∈ ps, memN (p.n / 64) u = true) → (par1 n pin true av).1.inU u = true) ∧ (∀ st pl, Held st pl ps → Ar P st pl Z w (par1 n pin true av).1 x) ∧ (par1 n pin true av).1.isNa = false := by
  cases h with
  | prim h => exact ⟨[], rfl, .nil, fun _ _ => rfl, fun _ _ _ => ⟨rfl, h⟩, rfl⟩
  | fr0 h => exact ⟨[], rfl, .nil, fun _ _ => rfl, fun _ _ _ => rd_fr h, rfl⟩
  | fp => exact ⟨[], rfl, .nil, fun _ _ => rfl, fun _ _ _ => trivial, rfl⟩
  | @sl t rows v cells fs hm hw ho hf hr =>
    refine ⟨[⟨n, .arr t rows pin, x, (0, 0), x.ownBlock.toList ++ fs.flatten⟩], rfl, ⟨fun p hp => ?_, by simp⟩, fun u hu => hu _ (List.mem_singleton.2 rfl), fun st pl hh => ?_, rfl⟩
    · rw [List.mem_singleton.1 hp]; exact ⟨t, rows, pin, rfl, .sl hm hw ho hf hr⟩
    · intro t' rows' p' ho'
      exact (hh _ (List.mem_singleton.2 rfl)).2.1.symm
theorem pars_rd {pin : Bool} : ∀ {n : Nat} {cs : List AV} {xs : List Value}, Rds P w Z cs xs → (pars pin false n cs).2 = [] ∧ (∀ u, (pars pin false n cs).1.all (AV.inU u) = true) ∧ ∀ st pl, Ars P st pl Z w (pars pin false n cs).1 xs
  | n, [], xs, h => ⟨rfl, fun _ => rfl, fun st pl => ⟨h.1, fun k av y hk => by simp [pars] at hk⟩⟩
  | n, c :: r, xs, h => by
    match xs, h with
    | [], h => exact absurd h.1 (by simp)
    | x :: xs, h =>
      obtain ⟨h1, h2, h3⟩ := par_rd (n := n) (pin := pin) (h.2 0 c x rfl rfl)
      obtain ⟨g1, g2, g3⟩ := pars_rd (pin := pin) (n := n + 1) (cs := r) (xs := xs) ⟨by simpa using h.1, fun k av y hk hy => h.2 (k + 1) av y (by simpa using hk) (by simpa using hy)⟩
      refine ⟨by simp [pars, h1, g1], fun u => by simp [pars, h2]; exact fun a ha => List.all_eq_true.1 (g2 u) a ha, fun st pl => ⟨by simp [pars, (g3 st pl).1], fun k av y hk hy => ?_⟩⟩
      cases k with
      | zero => simp [pars] at hk hy; subst hk; subst hy; exact h3 st pl
      | succ k => exact (g3 st pl).2 k av y (by simpa [pars] using hk) (by simpa using hy)
theorem par_ow' {n : Nat} {pin : Bool} {av : AV} {x : Value} {f : List Nat} (h : (av = .na ∧ f = []) ∨ Ow P w Z av x f) : ∃ ps : List Plc, (par1 n pin true av).2 = ps.map (fun p => (p.n, p.o)) ∧ Arrs P w Z ps f ∧
    (∀ u, (∀ p ∈ ps, memN (p.n / 64) u = true) → (par1 n pin true av).1.inU u = true) ∧ (∀ st pl, Held st pl ps → Ar P st pl Z w (par1 n pin true av).1 x) ∧ (par1 n pin true av).1.isNa = av.isNa := by
  rcases h with ⟨rfl, rfl⟩ | h
  · exact ⟨[], rfl, .nil, fun _ _ => rfl, fun _ _ _ => trivial, rfl⟩
  · obtain ⟨ps, h1, h2, h3, h4, h5⟩ := par_ow (n := n) (pin := pin) h
    refine ⟨ps, h1, h2, h3, h4, ?_⟩
    rw [h5]
    cases h <;> rfl
theorem pars_ow {pin : Bool} : ∀ {n : Nat} {cs : List AV} {xs : List Value} {fs : List (List Nat)}, fs.length = cs.length → xs.length = cs.length → (∀ (k : Nat) (av : AV) (x : Value) (g : List Nat), cs[k]? = some av → xs[k]? = some x → fs[k]? = some g → (av = .na ∧ g = []) ∨ Ow P w Z av x g) →
    ∃ ps : List Plc, (pars pin true n cs).2 = ps.map (fun p => (p.n, p.o)) ∧ Arrs P w Z ps fs.flatten ∧
    (∀ u, (∀ p ∈ ps, memN (p.n / 64) u = true) → (pars pin true n cs).1.all (AV.inU u) = true) ∧ (∀ st pl, Held st pl ps → Ars P st pl Z w (pars pin true n cs).1 xs) ∧ (pars pin true n cs).1.map (fun a => !a.isNa) = cs.map (fun a => !a.isNa)
  | n, [], xs, fs, h1, h2, h => ⟨[], rfl, .nil, fun _ _ => rfl, fun st pl _ => ⟨h2, fun k av y hk => by simp [pars] at hk⟩, by simp [pars]⟩
  | n, c :: r, [], fs, h1, h2, h => by simp at h2
  | n, c :: r, _, [], h1, h2, h => by simp at h1
  | n, c :: r, x :: xs, f :: fs, h1, h2, h => by
    obtain ⟨ps, a1, a2, a3, a4, a5⟩ := par_ow' (n := n) (pin := pin) (h 0 c x f rfl rfl rfl)
    obtain ⟨qs, b1, b2, b3, b4, b5⟩ := pars_ow (pin := pin) (n := n + 1) (cs := r) (xs := xs) (fs := fs) (by simpa using h1) (by simpa using h2) fun k av x g h1 h2 h3 => h (k + 1) av x g (by simpa using h1) (by simpa using h2) (by simpa using h3)
    refine ⟨ps ++ qs, by simp [pars, a1, b1], by rw [List.flatten_cons]; exact a2.append b2, fun u hu => ?_, fun st pl hh => ?_, ?_⟩
    · have h1 := a3 u fun p hp => hu p (List.mem_append_left _ hp)
      have h2 := b3 u fun p hp => hu p (List.mem_append_right _ hp)
      simp only [pars, List.all_cons, h1, h2, Bool.and_self]
    · obtain ⟨hh1, hh2⟩ := Held.append.1 hh
      refine ⟨by simp [pars, (b4 st pl hh2).1], fun k av y hk hy => ?_⟩
      cases k with
      | zero => simp [pars] at hk hy; subst hk; subst hy; exact a4 st pl hh1
      | succ k => exact (b4 st pl hh2).2 k av y (by simpa [pars] using hk) (by simpa using hy)
    · simp only [pars, List.map_cons, a5, b5]
def Told (P : Program) (w : World) (Z : Nat → Prop) (j : Nat) (vals : List Value) (ps : List Plc) (ts : List (Nat × TV)) : Prop :=
  ∀ i v, (i, v) ∈ ts → ∃ x, j ≤ i ∧ vals[i - j]? = some x ∧ (∀ st pl, Held st pl ps → Tr P st pl Z w v x) ∧ ∀ u, (∀ p ∈ ps, memN (p.n / 64) u = true) → v.inU u = true
theorem told_cons {j : Nat} {x : Value} {vals : List Value} {ps qs : List Plc} {v : TV} {ts : List (Nat × TV)} (h1 : ∀ st pl, Held st pl ps → Tr P st pl Z w v x) (h2 : ∀ u, (∀ p ∈ ps, memN (p.n / 64) u = true) → v.inU u = true)
    (h : Told P w Z (j + 1) vals qs ts) : Told P w Z j (x :: vals) (ps ++ qs) ((j, v) :: ts) := by
  intro i v' hv
  rcases List.mem_cons.1 hv with e | hv
  · simp only [Prod.mk.injEq] at e
    obtain ⟨rfl, rfl⟩ := e
    exact ⟨x, Nat.le_refl _, by simp, fun st pl hh => h1 st pl (Held.append.1 hh).1, fun u hu => h2 u fun p hp => hu p (List.mem_append_left _ hp)⟩
  · obtain ⟨y, g1, g2, g3, g4⟩ := h i v' hv
    refine ⟨y, by omega, ?_, fun st pl hh => g3 st pl (Held.append.1 hh).2, fun u hu => g4 u fun p hp => hu p (List.mem_append_right _ hp)⟩
    rw [show i - j = (i - (j + 1)) + 1 by omega]; simpa using g2
def noIo : List (Mode × TV) → Bool
  | [] => true
  | (.io _ _, _) :: _ => false
  | _ :: r => noIo r
theorem initK_sound {io : Option Io} : ∀ {ins : List (Mode × TV)} {j : Nat} {vals : List Value} {fin : List Nat} {k : List (Nat × TV) → List (Nat × Ob) → Prop}, (0 < j ∨ noIo ins = true) → initK (enumF j ins) k → InsR P w Z io ins vals fin →
    noIo ins = true ∧ ∃ (ts : List (Nat × TV)) (ps : List Plc), k ts (ps.map fun p => (p.n, p.o)) ∧ Arrs P w Z ps fin ∧ Told P w Z j vals ps ts
  | [], j, vals, fin, k, hj, h, hi => by
    cases hi
    exact ⟨rfl, [], [], h, .nil, fun i v hv => by cases hv⟩
  | (m, v) :: r, j, _, _, k, hj, h, .cons (x := x) (f := f) (xs := xs) (g := g) h1 h2 => by
    have rest : ∀ {k' : List (Nat × TV) → List (Nat × Ob) → Prop}, noIo ((m, v) :: r) = noIo r → initK (enumF (j + 1) r) k' → noIo r = true ∧ ∃ (ts : List (Nat × TV)) (ps : List Plc), k' ts (ps.map fun p => (p.n, p.o)) ∧ Arrs P w Z ps g ∧ Told P w Z (j + 1) xs ps ts :=
      fun he hk => initK_sound (.inl (Nat.succ_pos _)) hk h2
    cases h1 with
    | pone h1 =>
      simp only [enumF, initK] at h
      obtain ⟨e1, e2, e3⟩ := par_rd (n := j * 64) (pin := false) h1
      simp only [pars, e1, List.append_nil, fAV_eq, fOs_eq, List.nil_append] at h
      obtain ⟨g0, ts, ps, g1, g2, g3⟩ := rest rfl h
      exact ⟨g0, _, ps, g1, (Arrs.nil (f := [])).append g2, told_cons (ps := []) (fun st pl _ => e3 st pl) (fun u _ => e2 u) g3⟩
    | pagg h1 =>
      simp only [enumF, initK] at h
      obtain ⟨e1, e2, e3⟩ := pars_rd (n := j * 64) (pin := false) h1
      simp only [e1, fAVs_eq, fOs_eq, List.nil_append] at h
      obtain ⟨g0, ts, ps, g1, g2, g3⟩ := rest rfl h
      exact ⟨g0, _, ps, g1, (Arrs.nil (f := [])).append g2, told_cons (ps := []) (fun st pl _ => ⟨_, rfl, e3 st pl⟩) (fun u _ => e2 u) g3⟩
    | oone h1 =>
      simp only [enumF, initK] at h
      obtain ⟨qs, e1, e2, e3, e4, _⟩ := par_ow (n := j * 64) (pin := false) h1
      simp only [pars, e1, List.append_nil, fAV_eq, fOs_eq] at h
      obtain ⟨g0, ts, ps, g1, g2, g3⟩ := rest rfl h
      exact ⟨g0, (j, .one (par1 (j * 64) false true _).1) :: ts, qs ++ ps, by simpa using g1, e2.append g2, told_cons (fun st pl hh => e4 st pl hh) e3 g3⟩
    | oagg h1 =>
      obtain ⟨fs, rfl, k1, k2, k3⟩ := h1
      simp only [enumF, initK] at h
      obtain ⟨qs, e1, e2, e3, e4, _⟩ := pars_ow (n := j * 64) (pin := false) k1 k2 fun k av x g h1 h2 h3 => .inr (k3 k av x g h1 h2 h3)
      simp only [e1, fAVs_eq, fOs_eq] at h
      obtain ⟨g0, ts, ps, g1, g2, g3⟩ := rest rfl h
      exact ⟨g0, (j, .agg (pars false true (j * 64) _).1) :: ts, qs ++ ps, by simpa using g1, e2.append g2, told_cons (fun st pl hh => ⟨_, rfl, e4 st pl hh⟩) e3 g3⟩
    | mone h1 => exact h.elim
    | magg h1 => exact h.elim
    | io he h1 =>
      rcases hj with hj | hj
      · simp only [enumF, initK] at h
        cases j with
        | zero => omega
        | succ j => exact h.elim
      · simp [noIo] at hj
end
end Go.AM
end
section
namespace Go.AM
open Go
set_option linter.unusedVariables false
theorem nodup_pair {α : Type} {l : List α} {g : α → List Nat} (h : (l.flatMap g).Nodup) : (∀ a ∈ l, (g a).Nodup) ∧ l.Pairwise fun a b => ∀ x ∈ g a, x ∉ g b := by
  rw [List.flatMap_def] at h
  obtain ⟨h1, h2⟩ := nodup_flat h
  exact ⟨fun a ha => h1 _ (List.mem_map.2 ⟨a, ha, rfl⟩), List.pairwise_map.1 h2⟩
theorem pair_ne {l : List Plc} (hu : uniqN (l.map (·.n)) = true) (h : l.Pairwise fun a b => ∀ x ∈ a.f, x ∉ b.f) : ∀ a ∈ l, ∀ b ∈ l, a.n ≠ b.n → ∀ x ∈ a.f, x ∉ b.f := by
  intro a ha b hb hne x hx hx'
  rw [List.pairwise_iff_getElem] at h
  obtain ⟨i, hi, rfl⟩ := List.mem_iff_getElem.1 ha
  obtain ⟨j, hj, rfl⟩ := List.mem_iff_getElem.1 hb
  rcases Nat.lt_trichotomy i j with h1 | h1 | h1
  · exact h i j hi hj h1 x hx hx'
  · subst h1; exact hne rfl
  · exact h j i hj hi h1 x hx' hx
section
variable {P : Program} {w : World} {Z : Nat → Prop}
theorem insR_len {io : Option Io} {ins : List (Mode × TV)} {vals : List Value} {fin : List Nat} (h : InsR P w Z io ins vals fin) : vals.length = ins.length := by
  induction h with
  | nil => rfl
  | cons _ _ ih => simp [ih]
def pl0 : Pl := ⟨fun _ => undef, fun _ => (0, 0), fun _ => []⟩
theorem rel_of {nt : Nat} {io : Option Io} {vals : List Value} {fin us : List Nat} {ts : List (Nat × TV)} {ps : List Plc} (hnt : vals.length ≤ nt)
    (hu : uniqN (ps.map (·.n)) = true) (hus : ∀ p ∈ ps, memN (p.n / 64) us = true) (hts : Told P w Z 0 vals ps ts)
    (harr : ∀ p ∈ ps, ∀ t rows q, p.o = .arr t rows q → Ow P w Z (.sl t rows) p.h p.f ∧ ∀ b ∈ p.f, b ∈ fin)
    (hbox : ∀ p ∈ ps, ∀ row, p.o = .box row → ∃ i, io = some i ∧ p.f = [i.b] ∧ p.ad = (i.b, i.o) ∧ row.map (fun a => !a.isNa) = i.m ∧ row.all (AV.inU us) = true ∧
      ∃ c ty, w.heap[i.b]? = some (.cells c ty (0, 0)) ∧ i.o + row.length ≤ c.size ∧ ∀ st pl, Held st pl ps → ∀ k av y, row[k]? = some av → c[i.o + k]? = some y → Ar P st pl Z w av y)
    (h63 : ∀ i, io = some i → memN 0 us = true ∧ ∀ p ∈ ps, p.n = 63 → p.ad = (i.b, i.o)) (hnd : (ps.flatMap (·.f)).Nodup)
    (hfin : ∀ b ∈ fin, b < w.heap.size ∧ ¬ Z b ∧ ∀ i, io = some i → b ≠ i.b) (hZ : ∀ b, Z b → b < w.heap.size ∧ ∀ i, io = some i → b ≠ i.b)
    (hio : ∀ i, io = some i → ∃ c ty, w.heap[i.b]? = some (.cells c ty (0, 0))) (hg : GOk P w Z) :
    Rel P ⟨w, Z, fin, io, nt⟩ ⟨ts, ps.map fun p => (p.n, p.o), us⟩ { tmps := vals.toArray ++ Array.replicate (nt - vals.length) undef, defers := [] } w (over pl0 ps) Z := by
  have held : Held ⟨ts, ps.map fun p => (p.n, p.o), us⟩ (over pl0 ps) ps := by
    intro p hp
    refine ⟨?_, over_at hu hp⟩
    have hm : p.n ∈ names (ps.map fun p => (p.n, p.o)) := by rw [names_map]; exact List.mem_map.2 ⟨p, hp, rfl⟩
    obtain ⟨o, ho⟩ := Option.isSome_iff_exists.1 (lk_isSome.2 hm)
    obtain ⟨q, hq, e1, e2⟩ := lk_find hu ho
    have : q = p := by
      have h1 := uniqN_find hu hq
      have h2 := uniqN_find hu hp
      rw [e1] at h1; rw [h1] at h2; exact Option.some.inj h2
    subst this
    rw [ho, e2]
  have find : ∀ n o, lk (ps.map fun p => (p.n, p.o)) n = some o → ∃ p ∈ ps, p.n = n ∧ p.o = o := fun n o h => lk_find hu h
  have hasP : ∀ n, (⟨ts, ps.map fun p => (p.n, p.o), us⟩ : St).has n → ∃ p ∈ ps, p.n = n := by
    intro n hn
    obtain ⟨o, ho⟩ := Option.isSome_iff_exists.1 hn
    obtain ⟨p, hp, e, _⟩ := find n o ho
    exact ⟨p, hp, e⟩
  have ownE : ∀ p ∈ ps, (over pl0 ps).own p.n = p.f := fun p hp => (held p hp).2.2.2
  have blocks : ∀ p ∈ ps, ∀ b ∈ p.f, b ∈ fin ∨ ∃ i, io = some i ∧ b = i.b := by
    intro p hp b hb
    cases ho : p.o with
    | arr t rows q => exact .inl ((harr p hp t rows q ho).2 b hb)
    | box row =>
      obtain ⟨i, hi, hf, _⟩ := hbox p hp row ho
      rw [hf] at hb
      exact .inr ⟨i, hi, List.mem_singleton.1 hb⟩
  obtain ⟨hn1, hn2⟩ := nodup_pair hnd
  constructor
  case tsz => simp; omega
  case df => rfl
  case tmp =>
    intro i v hv
    obtain ⟨x, h1, h2, h3, _⟩ := hts i v (lk_mem hv)
    rw [Nat.sub_zero] at h2
    refine ⟨x, ?_, h3 _ _ held⟩
    have hlt := (List.getElem?_eq_some_iff.1 h2).1
    simp only
    rw [Array.getElem?_append_left (by simpa using hlt)]
    simpa using h2
  case obj =>
    intro n o ho
    obtain ⟨p, hp, rfl, rfl⟩ := find n o ho
    obtain ⟨e1, e2, e3, e4⟩ := held p hp
    cases hpo : p.o with
    | arr t rows q =>
      show Ow P w Z (.sl t rows) _ _
      rw [e2, e4]; exact (harr p hp t rows q hpo).1
    | box row =>
      obtain ⟨i, hi, hf, had, hm, hiu, c, ty, hc, hsz, hr⟩ := hbox p hp row hpo
      refine ⟨by rw [e3, e4, hf, had], c, ty, by rw [e3, had]; exact hc, by rw [e3, had]; exact hsz, fun k av y hk hy => ?_⟩
      rw [e3, had] at hy
      exact hr _ _ held k av y hk hy
  case nd =>
    intro n hn
    obtain ⟨p, hp, rfl⟩ := hasP n hn
    rw [ownE p hp]; exact hn1 p hp
  case dj =>
    intro n m hn hm hne b hb
    obtain ⟨p, hp, rfl⟩ := hasP n hn
    obtain ⟨q, hq, rfl⟩ := hasP m hm
    rw [ownE p hp] at hb
    rw [ownE q hq]
    exact pair_ne hu hn2 p hp q hq hne b hb
  case lt =>
    intro n hn b hb
    obtain ⟨p, hp, rfl⟩ := hasP n hn
    rw [ownE p hp] at hb
    rcases blocks p hp b hb with h | ⟨i, hi, rfl⟩
    · exact ⟨(hfin b h).1, (hfin b h).2.1, .inl h⟩
    · obtain ⟨c, ty, hc⟩ := hio i hi
      exact ⟨(Array.getElem?_eq_some_iff.1 hc).1, fun hz => (hZ _ hz).2 i hi rfl, .inr (.inl ⟨i, hi, rfl⟩)⟩
  case zlt => exact fun b hz => ⟨(hZ b hz).1, .inl hz, (hZ b hz).2⟩
  case z0 => exact fun b h => h
  case fr =>
    refine ⟨rfl, rfl, rfl, Nat.le_refl _, fun _ _ _ _ => rfl, fun i hi => ?_⟩
    obtain ⟨c, ty, hc⟩ := hio i hi
    exact ⟨c, c, ty, hc, hc, rfl, fun _ _ => rfl⟩
  case io =>
    intro i hi n row hr had
    obtain ⟨p, hp, rfl, hpo⟩ := find n _ hr
    obtain ⟨i', hi', hf, had', hm, _⟩ := hbox p hp row hpo
    have : i' = i := by have := hi'.symm.trans hi; simpa using this
    subst this
    rw [(held p hp).2.2.1, had']
    exact ⟨rfl, hm⟩
  case ioa =>
    intro i hi n t rows q hr hb
    obtain ⟨p, hp, rfl, hpo⟩ := find n _ hr
    rw [ownE p hp] at hb
    exact (hfin _ ((harr p hp t rows q hpo).2 _ hb)).2.2 i hi rfl
  case ut =>
    intro i v hv
    obtain ⟨x, _, _, _, h4⟩ := hts i v (lk_mem hv)
    exact h4 us hus
  case us =>
    intro n o ho
    obtain ⟨p, hp, rfl, rfl⟩ := find n o ho
    refine ⟨hus p hp, ?_⟩
    cases hpo : p.o with
    | arr t rows q => rfl
    | box row => obtain ⟨i, hi, hf, had, hm, hiu, _⟩ := hbox p hp row hpo; exact hiu
  case u0 =>
    intro i hi
    obtain ⟨h1, h2⟩ := h63 i hi
    refine ⟨h1, fun hn => ?_⟩
    obtain ⟨p, hp, e⟩ := hasP 63 hn
    rw [← e, (held p hp).2.2.1]
    exact h2 p hp e
  case gl => exact hg
theorem noIo_mem : ∀ {ins : List (Mode × TV)}, noIo ins = true → ∀ lo hi v, (Mode.io lo hi, v) ∉ ins
  | [], _, lo, hi, v => by simp
  | (m, u) :: r, h, lo, hi, v => by
    intro hm
    cases m <;> simp only [noIo] at h <;> rcases List.mem_cons.1 hm with e | hm <;> first | (cases e; done) | exact noIo_mem h lo hi v hm | cases h
theorem init_rel {nt : Nat} {io : Option Io} {ins : List (Mode × TV)} {vals : List Value} {fin : List Nat} {k : List (Nat × TV) → List (Nat × Ob) → Prop} (h : initK (enumF 0 ins) k) (hi : InsR P w Z io ins vals fin)
    (hio : io = none ∨ ∃ lo hi v, (Mode.io lo hi, v) ∈ ins) (hnd : fin.Nodup) (hfin : ∀ b ∈ fin, b < w.heap.size ∧ ¬ Z b ∧ ∀ i, io = some i → b ≠ i.b) (hZ : ∀ b, Z b → b < w.heap.size ∧ ∀ i, io = some i → b ≠ i.b) (hnt : ins.length ≤ nt) (hg : GOk P w Z) :
    ∃ ts os, k ts os ∧ (uniqN (names os) = true → (os.all fun p => memN (p.1 / 64) ((enumF 0 ins).map (·.1))) = true →
      ∃ pl, Rel P ⟨w, Z, fin, io, nt⟩ ⟨ts, os, (enumF 0 ins).map (·.1)⟩ { tmps := vals.toArray ++ Array.replicate (nt - vals.length) undef, defers := [] } w pl Z) ∧
      (∀ i, io = some i → ∃ lo hi row r, ins = (.io lo hi, .agg row) :: r ∧ noIo r = true) ∧ (io = none → noIo ins = true) := by
  have hlen : vals.length ≤ nt := by rw [insR_len hi]; exact hnt
  have plain : noIo ins = true → ∃ ts os, k ts os ∧ (uniqN (names os) = true → (os.all fun p => memN (p.1 / 64) ((enumF 0 ins).map (·.1))) = true →
      ∃ pl, Rel P ⟨w, Z, fin, io, nt⟩ ⟨ts, os, (enumF 0 ins).map (·.1)⟩ { tmps := vals.toArray ++ Array.replicate (nt - vals.length) undef, defers := [] } w pl Z) ∧
      (∀ i, io = some i → ∃ lo hi row r, ins = (.io lo hi, .agg row) :: r ∧ noIo r = true) ∧ (io = none → noIo ins = true) := by
    intro hno
    have hn : io = none := by
      rcases hio with h | ⟨lo, hi, v, hm⟩
      · exact h
      · exact absurd hm (noIo_mem hno lo hi v)
    obtain ⟨_, ts, ps, h1, h2, h3⟩ := initK_sound (.inr hno) h hi
    refine ⟨ts, _, h1, (fun hu hus => ⟨over pl0 ps, ?_⟩), (fun i hi => by rw [hn] at hi; cases hi), fun _ => hno⟩
    · rw [names_map] at hu
      have hus' : ∀ p ∈ ps, memN (p.n / 64) ((enumF 0 ins).map (·.1)) = true := fun p hp => List.all_eq_true.1 hus (p.n, p.o) (List.mem_map.2 ⟨p, hp, rfl⟩)
      refine rel_of hlen hu hus' h3 (fun p hp t rows q ho => ?_) (fun p hp row ho => ?_) (fun i hi => by rw [hn] at hi; cases hi) (h2.2.nodup hnd) hfin hZ (fun i hi => by rw [hn] at hi; cases hi) hg
      · obtain ⟨t', rows', q', e, h4⟩ := h2.1 p hp
        rw [ho] at e; cases e
        exact ⟨h4, fun b hb => h2.2.subset (List.mem_flatMap.2 ⟨p, hp, hb⟩)⟩
      · obtain ⟨t', rows', q', e, h4⟩ := h2.1 p hp
        rw [ho] at e; cases e
  cases hi with
  | nil => exact plain rfl
  | @cons m v x f r xs g h1 h2 =>
    cases m with
    | pure =>
      refine plain ?_
      have := (initK_sound (P := P) (w := w) (Z := Z) (io := io) (ins := (.pure, v) :: r) (j := 0) (k := k) (vals := x :: xs) (fin := f ++ g))
      cases hno : noIo r with
      | true => simpa [noIo] using hno
      | false =>
        exfalso
        cases h1 with
        | pone h1 =>
          simp only [enumF, initK, pars, (par_rd (n := 0) (pin := false) h1).1, fAV_eq, List.append_nil] at h
          have := (initK_sound (.inl (Nat.succ_pos _)) h h2).1; rw [hno] at this; cases this
        | pagg h1 =>
          simp only [enumF, initK, (pars_rd (n := 0) (pin := false) h1).1, fAVs_eq] at h
          have := (initK_sound (.inl (Nat.succ_pos _)) h h2).1; rw [hno] at this; cases this
    | own =>
      refine plain ?_
      cases hno : noIo r with
      | true => simpa [noIo] using hno
      | false =>
        exfalso
        cases h1 with
        | oone h1 =>
          simp only [enumF, initK, pars, fAV_eq] at h
          have := (initK_sound (.inl (Nat.succ_pos _)) h h2).1; rw [hno] at this; cases this
        | oagg h1 =>
          simp only [enumF, initK, fAVs_eq] at h
          have := (initK_sound (.inl (Nat.succ_pos _)) h h2).1; rw [hno] at this; cases this
    | «mut» =>
      cases h1 with
      | mone h1 => exact h.elim
      | magg h1 => exact h.elim
    | io lo hi' =>
      cases h1 with
      | @io _ _ row i f he hr =>
        obtain ⟨hm, c, ty, fs, hc, hsz, hfl, rfl, hcells⟩ := hr
        have hio' : io = some i := he
        let xs0 : List Value := (c.toList.drop i.o).take row.length
        have hxl : xs0.length = row.length := by simp [xs0]; omega
        have hxg : ∀ k, k < row.length → xs0[k]? = c[i.o + k]? := fun k hk => by simp only [xs0]; rw [List.getElem?_take, if_pos hk, List.getElem?_drop]; simp
        obtain ⟨qs, e1, e2, e3, e4, e5⟩ := pars_ow (P := P) (w := w) (Z := Z) (n := 0) (pin := false) (cs := row) (xs := xs0) hfl hxl fun k av x g h1 h2 h3 => by
          have hk := (List.getElem?_eq_some_iff.1 h1).1
          rw [hxg k hk] at h2
          rcases hcells k av g h1 h3 with h | ⟨y, hy, h⟩
          · exact .inl h
          · rw [h2] at hy; cases hy; exact .inr h
        simp only [enumF, initK, e1, fAVs_eq, fOs_eq] at h
        obtain ⟨hnr, ts, ps, g1, g2, g3⟩ := initK_sound (.inl (Nat.succ_pos _)) h h2
        let bx : Plc := ⟨63, .box (pars false true 0 row).1, undef, (i.b, i.o), [i.b]⟩
        have hall := e2.append g2
        refine ⟨_, _, g1, (fun hu hus => ⟨over pl0 (bx :: (qs ++ ps)), ?_⟩), (fun i _ => ⟨_, _, _, _, rfl, hnr⟩), fun hn => by rw [hn] at hio'; cases hio'⟩
        have hmapE : ((63, Ob.box (pars false true 0 row).1) :: (qs.map (fun p => (p.n, p.o)) ++ ps.map fun p => (p.n, p.o))) = (bx :: (qs ++ ps)).map fun p => (p.n, p.o) := by simp [bx]
        simp only [hmapE] at hu hus ⊢
        rw [names_map] at hu
        have hus' : ∀ p ∈ bx :: (qs ++ ps), memN (p.n / 64) ((enumF 0 ((.io lo hi', .agg row) :: r)).map (·.1)) = true := fun p hp => List.all_eq_true.1 hus (p.n, p.o) (List.mem_map.2 ⟨p, hp, rfl⟩)
        have hu63 : ∀ p ∈ qs ++ ps, p.n ≠ 63 := by
          intro p hp e
          simp only [List.map_cons, uniqN] at hu
          cases hm : memN bx.n ((qs ++ ps).map (·.n)) with
          | true => rw [hm] at hu; cases hu
          | false => exact memN_false.1 hm (List.mem_map.2 ⟨p, hp, e⟩)
        have hib : i.b ∉ fs.flatten ++ g := fun hb => (hfin _ hb).2.2 i hio' rfl
        refine rel_of hlen hu hus' ?_ (fun p hp t rows q ho => ?_) (fun p hp row' ho => ?_) (fun i' hi' => ?_) ?_ hfin hZ (fun i' hi' => ?_) hg
        · have := told_cons (j := 0) (x := .pointer (some ⟨i.b, i.o, none⟩)) (v := .one (.ptr 63 0 0)) (ps := bx :: qs) (fun st pl hh => by
            obtain ⟨k1, _, k3, _⟩ := hh bx (List.mem_cons_self ..)
            intro o ho
            have : o = .box (pars false true 0 row).1 := Option.some.inj (ho.symm.trans k1)
            subst this
            simp only [ptrAt]
            rw [k3]; rfl) (fun u hu => hu bx (List.mem_cons_self ..)) g3
          simpa using this
        · rcases List.mem_cons.1 hp with rfl | hp
          · cases ho
          · obtain ⟨t', rows', q', e, h4⟩ := hall.1 p hp
            rw [ho] at e; cases e
            exact ⟨h4, fun b hb => hall.2.subset (List.mem_flatMap.2 ⟨p, hp, hb⟩)⟩
        · rcases List.mem_cons.1 hp with rfl | hp
          · simp only [bx, Ob.box.injEq] at ho
            subst ho
            have hrl : (pars false true 0 row).1.length = row.length := by have := congrArg List.length e5; simpa using this
            refine ⟨i, hio', rfl, rfl, by rw [e5]; exact hm.symm, ?_, c, ty, hc, by rw [hrl]; exact hsz, fun st pl hh k av y hk hy => ?_⟩
            · exact e3 _ fun p hp => hus' p (List.mem_cons_of_mem _ (List.mem_append_left _ hp))
            · have hh' : Held st pl qs := fun p hp => hh p (List.mem_cons_of_mem _ (List.mem_append_left _ hp))
              have hkl : k < row.length := by rw [← hrl]; exact (List.getElem?_eq_some_iff.1 hk).1
              exact (e4 st pl hh').2 k av y hk (by rw [hxg k hkl]; exact hy)
          · obtain ⟨t', rows', q', e, h4⟩ := hall.1 p hp
            rw [ho] at e; cases e
        · have : i' = i := by have := hi'.symm.trans hio'; simpa using this
          subst this
          refine ⟨by simp [enumF, memN], fun p hp e => ?_⟩
          rcases List.mem_cons.1 hp with rfl | hp
          · rfl
          · exact absurd e (hu63 p hp)
        · rw [List.flatMap_cons]
          refine List.nodup_append.2 ⟨by simp [bx], hall.2.nodup hnd, fun a ha b hb e => ?_⟩
          subst e
          rw [List.mem_singleton.1 ha] at hb
          exact hib (hall.2.subset hb)
        · have : i' = i := by have := hi'.symm.trans hio'; simpa using this
          subst this
          exact ⟨c, ty, hc⟩
end
end Go.AM
end
section
namespace Go.AM
open Go
set_option linter.unusedVariables false
def resRun (tmps : Array Value) : ResultVar → _root_.Go.Sem Value
  | .tmp t => pure (tmps.getD t undef)
  | .cell a t => do loadVar t (← asAddr (tmps.getD a undef))
theorem run_mapL {P : Program} {w : World} {α : Type} {g : α → _root_.Go.Sem Value} : ∀ {l : List α} {vals : List Value}, vals.length = l.length → (∀ (k : Nat) (r : α) (x : Value), l[k]? = some r → vals[k]? = some x → (g r).run P w = .ok x w) →
    (l.mapM g).run P w = .ok vals w
  | [], [], _, _ => by simp
  | [], _ :: _, h, _ => by simp at h
  | _ :: _, [], h, _ => by simp at h
  | a :: r, x :: xs, hl, h => by
    have h1 := h 0 a x rfl rfl
    have h2 := run_mapL (l := r) (vals := xs) (by simpa using hl) fun k r x hk hx => h (k + 1) r x (by simpa using hk) (by simpa using hx)
    rw [List.mapM_cons]
    simp only [Sem.run_bind, h1, h2, Result.andThen_ok, Sem.run_pure]
theorem run_mapM {P : Program} {w : World} {α : Type} {g : α → _root_.Go.Sem Value} {arr : Array α} {vals : List Value} (hl : vals.length = arr.size) (h : ∀ (k : Nat) (r : α) (x : Value), arr.toList[k]? = some r → vals[k]? = some x → (g r).run P w = .ok x w) :
    (arr.mapM g).run P w = .ok vals.toArray w := by
  rw [Array.mapM_eq_mapM_toList, map_eq_pure_bind]
  simp only [Sem.run_bind, run_mapL (l := arr.toList) (vals := vals) (by simpa using hl) h, Result.andThen_ok, Sem.run_pure]
section
variable {E : Env} (hE : tabB E = true)
include hE
theorem resV_sound {st : St} {r : ResultVar} {k : Bool → List AV → Prop} (h : resV E st r k) : ∃ ag cs, k ag cs ∧ (ag = false → cs.length = 1) ∧
    ∀ (cx : Cx) (a : Act) (w : World) (pl : Pl) (Z : Nat → Prop), Rel E.P cx st a w pl Z → ∃ (x : Value) (ys : List Value), (resRun a.tmps r).run E.P w = .ok x w ∧ Ars E.P st pl Z w cs ys ∧ x = bif ag then .agg ys.toArray else ys.getD 0 undef := by
  unfold resV at h
  split at h
  · rename_i i
    split at h
    · rename_i b hl
      refine ⟨false, [b], h, fun _ => rfl, fun cx a w pl Z R => ?_⟩
      obtain ⟨x, h1, h2⟩ := R.tmp i _ hl
      refine ⟨x, [x], by simp [resRun, Array.getD_eq_getD_getElem?, h1], ⟨rfl, fun k av y hk hy => ?_⟩, rfl⟩
      cases k with
      | zero => simp at hk hy; subst hk; subst hy; exact h2
      | succ k => simp at hk
    · rename_i cs hl
      refine ⟨true, cs, h, (fun e => by cases e), fun cx a w pl Z R => ?_⟩
      obtain ⟨x, h1, ys, rfl, h2⟩ := R.tmp i _ hl
      exact ⟨_, ys, by simp [resRun, Array.getD_eq_getD_getElem?, h1], h2, rfl⟩
    · exact h.elim
  · rename_i i t
    split at h
    · rename_i n off hl
      obtain ⟨ti, hT, _, h⟩ := ty_ok hE h
      split at h
      · rename_i row hob
        split at h
        · rename_i hle hna
          have hlen := seg_len hle
          have hll := leLen_iff.1 hle
          refine ⟨_, _, h, fun ha => by rw [hlen]; exact hT.one ha, fun cx a w pl Z R => ?_⟩
          obtain ⟨x, h1, h2⟩ := R.tmp i _ hl
          have h3 := h2 _ hob
          obtain ⟨hown, c, ty, hc, hsz, hr⟩ := R.obj n _ hob
          let xs := ((c.toList.drop ((pl.adr n).2 + off)).take ti.n)
          have hxl : xs.length = ti.n := by simp [xs]; omega
          have hars : Ars E.P st pl Z w (takeC ti.n (dropC off row)) xs := by
            refine ⟨by rw [hxl, hlen], fun k av y hk hy => ?_⟩
            obtain ⟨_, hk'⟩ := seg_get hk
            obtain ⟨_, hy'⟩ := seg_xs hy
            exact hr (off + k) av y hk' (by simpa [Nat.add_assoc] using hy')
          refine ⟨_, xs, ?_, hars, rfl⟩
          have := run_loadVar (w := w) hT (pl.adr n).1 ((pl.adr n).2 + off) xs hxl fun k x hk => by
            obtain ⟨_, hk'⟩ := seg_xs hk
            rw [cell_of_row w _ _ c ty (0, 0) hc]
            simpa using hk'
          simp only [resRun, Array.getD_eq_getD_getElem?, h1, Option.getD_some, h3, ptrAt]
          simp [this, asAddr]
        · exact h.elim
      · exact h.elim
    · exact h.elim
omit hE in
theorem retC_sound {st : St} {ag : Bool} {cs : List AV} {del : List Nat} {k : List AV → List Nat → Prop} (h : retC st ag cs del k) : ∃ (cs' : List AV) (ms : List Nat), k cs' (ms.reverse ++ del) ∧ cs'.length = cs.length ∧ ms.Nodup ∧ (∀ m ∈ ms, m ∉ del) ∧ (∀ m ∈ ms, st.has m) ∧
    ∀ (P : Program) (cx : Cx) (a : Act) (w : World) (pl : Pl) (Z : Nat → Prop), Rel P cx st a w pl Z → ∀ ys, Ars P st pl Z w cs ys → Ows P w Z cs' ys (ms.flatMap pl.own) := by
  unfold retC at h
  split at h
  · rename_i n
    split at h
    · rename_i row hm hob
      obtain ⟨row', ro, ms, h, h1, h2, h3, h4, h5, h6⟩ := rowCells_sound h
      have hn : st.has n := by unfold St.has St.O; rw [hob]; rfl
      refine ⟨[.fp [] row' 0], n :: ms, by simpa using h, rfl, List.nodup_cons.2 ⟨fun hmm => h4 n hmm (by simp), h3⟩, fun m hm' => ?_, fun m hm' => ?_, fun P cx a w pl Z R ys hy => ?_⟩
      · rcases List.mem_cons.1 hm' with rfl | hm'
        · exact memN_false.1 hm
        · exact fun hd => h4 m hm' (List.mem_cons_of_mem _ hd)
      · rcases List.mem_cons.1 hm' with rfl | hm'
        · exact hn
        · obtain ⟨t, rows, e⟩ := h5 m hm'; unfold St.has St.O; rw [h1.mem e]; rfl
      · match ys, hy with
        | [], hy => exact absurd hy.1 (by simp)
        | _ :: _ :: _, hy => exact absurd hy.1 (by simp)
        | [y], hy =>
          have h7 : y = _ := hy.2 0 _ y rfl rfl _ hob
          obtain ⟨hown, c, ty, hc, hsz, hr⟩ := R.obj n _ hob
          let xs := ((c.toList.drop (pl.adr n).2).take row.length)
          have hxl : xs.length = row.length := by simp [xs]; omega
          have hxg : ∀ k, k < row.length → xs[k]? = c[(pl.adr n).2 + k]? := fun k hk => by simp only [xs]; rw [List.getElem?_take, if_pos hk, List.getElem?_drop]; simp
          obtain ⟨fs, e1, e2, e3⟩ := h6 P cx st a w pl Z R h1 xs ⟨hxl, fun k av y hk hy => hr k av y hk (by rw [← hxg k (List.getElem?_eq_some_iff.1 hk).1]; exact hy)⟩
          refine ⟨[(pl.adr n).1 :: fs.flatten], by simp [hown, e2], rfl, rfl, fun k av x g hk hx hg => ?_⟩
          cases k with
          | succ k => simp at hk
          | zero =>
            simp at hk hx hg
            subst hk; subst hx; subst hg
            rw [h7]
            simp only [ptrAt, Nat.add_zero]
            exact .fp hc (by rw [h2]; exact hsz) e1 fun k av x f hk hx hf => e3 k av x f hk (by rw [hxg k (by rw [← h2]; exact (List.getElem?_eq_some_iff.1 hk).1)]; exact hx) hf
    · exact h.elim
  · obtain ⟨row', ro, ms, h, h1, h2, h3, h4, h5, h6⟩ := rowCells_sound h
    refine ⟨row', ms, h, h2, h3, h4, fun m hm => ?_, fun P cx a w pl Z R ys hy => ?_⟩
    · obtain ⟨t, rows, e⟩ := h5 m hm; unfold St.has St.O; rw [h1.mem e]; rfl
    · obtain ⟨fs, e1, e2, e3⟩ := h6 P cx st a w pl Z R h1 ys hy
      exact ⟨fs, e2.symm, e1, by rw [hy.1, h2], e3⟩
theorem resK_sound {st : St} : ∀ {rs : List ResultVar} {del : List Nat} {k : List (Bool × List AV) → List Nat → Prop}, resK E st rs del k → ∃ (l : List (Bool × List AV)) (ms : List Nat), k l (ms.reverse ++ del) ∧ l.length = rs.length ∧ ms.Nodup ∧ (∀ m ∈ ms, m ∉ del) ∧ (∀ m ∈ ms, st.has m) ∧
    ∀ (cx : Cx) (a : Act) (w : World) (pl : Pl) (Z : Nat → Prop), Rel E.P cx st a w pl Z → ∃ (xs : List Value) (fs : List (List Nat)), xs.length = rs.length ∧ fs.length = rs.length ∧ fs.flatten = ms.flatMap pl.own ∧
      (∀ (k : Nat) (r : ResultVar) (x : Value), rs[k]? = some r → xs[k]? = some x → (resRun a.tmps r).run E.P w = .ok x w) ∧
      ∀ (k : Nat) (ag : Bool) (cs : List AV) (x : Value) (f : List Nat), l[k]? = some (ag, cs) → xs[k]? = some x → fs[k]? = some f → (ag = false → cs.length = 1) ∧ ∃ ys : List Value, Ows E.P w Z cs ys f ∧ x = bif ag then .agg ys.toArray else ys.getD 0 undef
  | [], del, k, h => ⟨[], [], h, rfl, List.nodup_nil, by simp, by simp, fun cx a w pl Z R => ⟨[], [], rfl, rfl, rfl, by simp, by simp⟩⟩
  | r :: rs, del, k, h => by
    simp only [resK] at h
    obtain ⟨ag, cs, h, a1, a2⟩ := resV_sound hE h
    obtain ⟨cs', ms, h, b1, b2, b3, b4, b5⟩ := retC_sound h
    obtain ⟨l, ms', h, c1, c2, c3, c4, c5⟩ := resK_sound h
    refine ⟨(ag, cs') :: l, ms ++ ms', by simpa [List.reverse_append, List.append_assoc] using h, by simp [c1], ?_, ?_, ?_, fun cx a w pl Z R => ?_⟩
    · exact List.nodup_append.2 ⟨b2, c2, fun p hp q hq e => by subst e; exact c3 p hq (by simp [hp])⟩
    · intro m hm
      rcases List.mem_append.1 hm with hm | hm
      · exact b3 m hm
      · exact fun hd => c3 m hm (List.mem_append_right _ hd)
    · intro m hm
      exact (List.mem_append.1 hm).elim (b4 m) (c4 m)
    · obtain ⟨x, ys, d1, d2, d3⟩ := a2 cx a w pl Z R
      have d4 := b5 E.P cx a w pl Z R ys d2
      obtain ⟨xs, fs, e1, e2, e3, e4, e5⟩ := c5 cx a w pl Z R
      refine ⟨x :: xs, (ms.flatMap pl.own) :: fs, by simp [e1], by simp [e2], by simp [e3, List.flatMap_append], fun k r' x' hk hx => ?_, fun k ag' cs'' x' f hk hx hf => ?_⟩
      · cases k with
        | zero => simp at hk hx; subst hk; subst hx; exact d1
        | succ k => exact e4 k r' x' (by simpa using hk) (by simpa using hx)
      · cases k with
        | zero =>
          simp at hk hx hf
          obtain ⟨rfl, rfl⟩ := hk; subst hx; subst hf
          exact ⟨fun ha => by rw [b1]; exact a1 ha, ys, d4, d3⟩
        | succ k => exact e5 k ag' cs'' x' f (by simpa using hk) (by simpa using hx) (by simpa using hf)
end
theorem rowCells_na {st : St} : ∀ {cs : List AV} {del : List Nat} {k : List AV → List (Nat × Ob) → List Nat → Prop}, rowCells st cs del k → ∀ c ∈ cs, c.isNa = false
  | [], _, _, _, c, hc => by cases hc
  | c0 :: r, del, k, h, c, hc => by
    have go : ∀ {del k}, rowCells st r del k → c0.isNa = false → c.isNa = false := fun h h0 => (List.mem_cons.1 hc).elim (fun e => e ▸ h0) (rowCells_na h c)
    cases c0 with
    | prim v => exact go (by simpa only [rowCells] using h) rfl
    | emp t => exact go (by simpa only [rowCells] using h) rfl
    | ref m =>
      simp only [rowCells] at h
      split at h
      · exact go h rfl
      · exact h.elim
    | fr ns t rows =>
      cases ns with
      | nil => exact go (by simpa only [rowCells] using h) rfl
      | cons n ns => simp only [rowCells] at h
    | _ => simp only [rowCells] at h
theorem Ow.notNa {P : Program} {w : World} {Z : Nat → Prop} {av : AV} {x : Value} {f : List Nat} (h : Ow P w Z av x f) : av.isNa = false := by cases h <;> rfl
theorem outsR_pure {P : Program} {w : World} {Z : Nat → Prop} {io : Option Io} : ∀ {ins : List (Mode × TV)} {vals : List Value}, noIo ins = true → (∀ v, (Mode.mut, v) ∉ ins) → vals.length = ins.length → OutsR P w Z io ins vals [] []
  | [], [], _, _, _ => .nil
  | [], _ :: _, _, _, h => by simp at h
  | _ :: _, [], _, _, h => by simp at h
  | (m, v) :: r, x :: xs, h1, h2, h3 => by
    have := outsR_pure (P := P) (w := w) (Z := Z) (io := io) (ins := r) (vals := xs) (by cases m <;> first | exact h1 | cases h1) (fun v hv => h2 v (List.mem_cons_of_mem _ hv)) (by simpa using h3)
    cases m with
    | pure => exact .pure this
    | own => exact .own this
    | «mut» => exact absurd (List.mem_cons_self ..) (h2 v)
    | io lo hi => cases h1
end Go.AM
end
section
namespace Go.AM
open Go
set_option linter.unusedVariables false
theorem initK_noMut {P : Program} {w : World} {Z : Nat → Prop} {io : Option Io} : ∀ {ins : List (Mode × TV)} {j : Nat} {vals : List Value} {fin : List Nat} {k : List (Nat × TV) → List (Nat × Ob) → Prop}, initK (enumF j ins) k → InsR P w Z io ins vals fin → ∀ v, (Mode.mut, v) ∉ ins
  | [], j, vals, fin, k, h, hi, v => by simp
  | (m, u) :: r, j, _, _, k, h, .cons (x := x) (f := f) (xs := xs) (g := g) h1 h2, v => by
    intro hm
    have go : ∀ {k'}, initK (enumF (j + 1) r) k' → m ≠ .mut → False := fun h hne => by
      rcases List.mem_cons.1 hm with e | hm
      · cases e; exact hne rfl
      · exact initK_noMut h h2 v hm
    cases h1 with
    | pone h1 =>
      simp only [enumF, initK, pars, fAV_eq] at h
      exact go h (by intro e; cases e)
    | pagg h1 =>
      simp only [enumF, initK, fAVs_eq] at h
      exact go h (by intro e; cases e)
    | oone h1 =>
      simp only [enumF, initK, pars, fAV_eq] at h
      exact go h (by intro e; cases e)
    | oagg h1 =>
      simp only [enumF, initK, fAVs_eq] at h
      exact go h (by intro e; cases e)
    | mone h1 => exact h.elim
    | magg h1 => exact h.elim
    | io he h1 =>
      simp only [enumF, initK] at h
      cases j with
      | zero =>
        simp only [fAVs_eq] at h
        exact go h (by intro e; cases e)
      | succ j => exact h.elim
theorem run_results {P : Program} {w : World} {fn : Func} {tmps : Array Value} {xs : List Value} (hl : xs.length = fn.results.size) (h : ∀ (k : Nat) (r : ResultVar) (x : Value), fn.results.toList[k]? = some r → xs[k]? = some x → (resRun tmps r).run P w = .ok x w) :
    (results fn tmps).run P w = .ok (if h : xs.toArray.size = 1 then xs.toArray[0] else .tuple xs.toArray) w := by
  unfold results
  simp only [Sem.run_bind]
  rw [run_mapM hl (fun k r x hk hx => by have := h k r x hk hx; cases r <;> exact this)]
  simp only [Result.andThen_ok, Sem.run_pure]
theorem isIo_no : ∀ {ins : List (Mode × TV)}, noIo ins = true → isIo (enumF 0 ins) = false
  | [], _ => rfl
  | (m, v) :: r, h => by cases m <;> first | rfl | cases h
section
variable {E : Env} (hE : tabB E = true) (hm : E.P.follows .mixedOrders = true)
include hE hm
theorem fn_sound {f : Nat} {fn : Func} {c : Code} {ins : List (Mode × TV)} {outs : List TV} {res : TV} (hf : E.P.funcs[f]? = some fn) (hb : fn.body = some c) (hn : (fn.name == "runtime.NumGoroutine") = false)
    (hc : codeOk fn.ntmps c = true) (hnt : Nat.ble ins.length fn.ntmps = true) (h : fnVc E fn c (enumF 0 ins) fun v os => v = res ∧ os = outs) : Sem E.P f ins outs res := by
  refine ⟨⟨fn, hf, by rw [hb]; rfl, hn⟩, fun w Z io vals fin hg hi hio hnd hfin hZ => ?_⟩
  have hnt' := Nat.le_of_ble_eq_true hnt
  unfold fnVc at h
  obtain ⟨ts, os, h, hR, hio1, hio2⟩ := init_rel (nt := fn.ntmps) h hi hio hnd hfin hZ hnt' hg
  have hlen := insR_len hi
  have hnm := initK_noMut (by assumption) hi
  · rw [fNs_eq, namesR_eq] at h
    split at h
    case h_2 => exact h.elim
    rename_i hchk
    replace hchk := namesOkR_ok hchk
    obtain ⟨pl, R⟩ := hR hchk.1 hchk.2
    refine calls_of_wp hf hb ?_
    have hv := vc_sound hE hm (weak_ok E) (cx := ⟨w, Z, fin, io, fn.ntmps⟩) hc h R
    simp only [List.size_toArray]
    refine wp_mono hv fun e a w' hq => ?_
    have fine : ∀ st pl' Z', AM.fin E fn (enumF 0 ins) st (fun v os => v = res ∧ os = outs) → Rel E.P ⟨w, Z, fin, io, fn.ntmps⟩ st a w' pl' Z' →
        a.defers = [] ∧ ∃ v, (results fn a.tmps).run E.P w' = .ok v w' ∧ ∃ v', Ending.returned v = .returned v' ∧ Post E.P w Z io ins vals fin outs res v' w' := by
      intro st pl' Z' hfin' R'
      refine ⟨R'.df, ?_⟩
      unfold AM.fin at hfin'
      obtain ⟨l, ms, h1, a1, a2, a3, a4, a5⟩ := resK_sound hE hfin'
      obtain ⟨xs, fs, b1, b2, b3, b4, b5⟩ := a5 _ a w' pl' Z' R'
      have hres : (results fn a.tmps).run E.P w' = .ok (if h : xs.toArray.size = 1 then xs.toArray[0] else .tuple xs.toArray) w' := by
        exact run_results (by simpa using b1) b4
      refine ⟨_, hres, _, rfl, ?_⟩
      have hrs : ∀ (l' : List (Bool × List AV)), l' = l → (∀ outs', (match (generalizing := false) l' with | [(ag, cs)] => fTV (mkTV ag cs) fun v => v = res ∧ outs' = outs | l' => (TV.tup l' = res ∧ outs' = outs)) → outs' = outs ∧
          ResR E.P w' Z' res (if h : xs.toArray.size = 1 then xs.toArray[0] else .tuple xs.toArray) fs.flatten) := by
        intro l' hl' outs' hh
        subst hl'
        match l', a1 with
        | [(ag, cs)], a1 =>
          simp only [fTV_eq] at hh
          obtain ⟨rfl, rfl⟩ := hh
          refine ⟨rfl, ?_⟩
          have hx1 : xs.length = 1 := by rw [b1, ← a1]; rfl
          have hf1 : fs.length = 1 := by rw [b2, ← a1]; rfl
          match xs, hx1, fs, hf1 with
          | [x], _, [f0], _ =>
            obtain ⟨c1, ys, c2, c3⟩ := b5 0 ag cs x f0 rfl rfl rfl
            simp only [List.size_toArray, List.length_cons, List.length_nil, Nat.zero_add, dif_pos, List.flatten_cons, List.flatten_nil, List.append_nil, List.getElem_toArray, List.getElem_cons_zero]
            cases ag with
            | true => rw [c3]; exact .agg c2
            | false =>
              have hc1 := c1 rfl
              match cs, hc1 with
              | [av], _ =>
                obtain ⟨gs, g1, g2, g3, g4⟩ := c2
                match ys, g3 with
                | [y], _ =>
                  match gs, g2 with
                  | [g0], _ =>
                    simp at g1
                    rw [c3, g1]
                    exact .one (g4 0 av y g0 rfl rfl rfl)
        | [], a1 =>
          obtain ⟨rfl, rfl⟩ := hh
          refine ⟨rfl, ?_⟩
          have hx0 : xs = [] := List.eq_nil_of_length_eq_zero (by rw [b1, ← a1]; rfl)
          have hf0 : fs = [] := List.eq_nil_of_length_eq_zero (by rw [b2, ← a1]; rfl)
          subst hx0; subst hf0
          exact .tup (xs := []) (fs := []) rfl rfl (by simp)
        | p :: q :: r, a1 =>
          obtain ⟨rfl, rfl⟩ := hh
          refine ⟨rfl, ?_⟩
          have hx2 : ¬ xs.toArray.size = 1 := by
            have : xs.length = r.length + 2 := by rw [b1, ← a1]; simp
            simp only [List.size_toArray]; omega
          rw [dif_neg hx2]
          exact .tup (by rw [b1, a1]) (by rw [b2, a1]) fun k ag cs x f h1 h2 h3 => (b5 k ag cs x f h1 h2 h3).2
      have hblk : ∀ m, st.has m → ∀ b ∈ pl'.own m, (b ∈ fin ∨ w.heap.size ≤ b ∨ ∃ i, io = some i ∧ b = i.b) ∧ b < w'.heap.size ∧ ¬ Z' b := by
        intro m hm b hb
        obtain ⟨k1, k2, k3⟩ := R'.lt m hm b hb
        refine ⟨?_, k1, k2⟩
        rcases k3 with h | ⟨i, hi', h⟩ | h
        · exact .inl h
        · exact .inr (.inr ⟨i, hi', h⟩)
        · exact .inr (.inl h)
      have hZ' : ∀ b, Z' b → (Z b ∨ b ∈ fin ∨ w.heap.size ≤ b) ∧ b < w'.heap.size ∧ ∀ i, io = some i → b ≠ i.b := fun b hb => ⟨(R'.zlt b hb).2.1, (R'.zlt b hb).1, (R'.zlt b hb).2.2⟩
      cases io with
      | none =>
        rw [isIo_no (hio2 rfl)] at h1
        obtain ⟨he, hr⟩ := hrs l rfl [] (by simp only [outK] at h1; exact h1)
        subst he
        refine ⟨Z', fs.flatten, [], R'.fr, R'.z0, hZ', hr, outsR_pure (hio2 rfl) hnm hlen, by rw [List.append_nil, b3]; exact own_nodup R' a2 a4, fun b hb => ?_⟩
        rw [List.append_nil, b3] at hb
        obtain ⟨m, hm', hb⟩ := List.mem_flatMap.1 hb
        obtain ⟨k1, k2, k3⟩ := hblk m (a4 m hm') b hb
        refine ⟨?_, k2, k3, fun i hi' => by cases hi'⟩
        rcases k1 with h | h | ⟨i, hi', _⟩
        · exact .inl h
        · exact .inr h
        · cases hi'
      | some i =>
        obtain ⟨lo, hi', row, r, rfl, hnr⟩ := hio1 i rfl
        simp only [enumF, isIo, outK] at h1
        split at h1
        · rename_i row2 h63 hob
          have h63' := memN_false.1 h63
          rw [List.append_nil] at h63'
          have h63m : 63 ∉ ms := fun h => h63' (List.mem_reverse.2 h)
          have hna := rowCells_na h1
          obtain ⟨row', ro, ms2, h1, c1, c2, c3, c4, c5, c6⟩ := rowCells_sound h1
          rw [fAVs_eq] at h1
          obtain ⟨he, hr⟩ := hrs l rfl [.agg row'] h1
          subst he
          have hn63 : st.has 63 := by unfold St.has St.O; rw [hob]; rfl
          obtain ⟨hown, cc, ty, hc, hsz, hrr⟩ := R'.obj 63 _ hob
          have had := (R'.u0 i rfl).2 hn63
          have had1 : (pl'.adr 63).1 = i.b := by rw [had]
          have had2 : (pl'.adr 63).2 = i.o := by rw [had]
          obtain ⟨_, hmask⟩ := R'.io i rfl 63 row2 hob had1
          rw [had1] at hown hc
          rw [had2] at hsz hrr
          let xs2 := ((cc.toList.drop i.o).take row2.length)
          have hxl : xs2.length = row2.length := by simp [xs2]; omega
          have hxg : ∀ k, k < row2.length → xs2[k]? = cc[i.o + k]? := fun k hk => by simp only [xs2]; rw [List.getElem?_take, if_pos hk, List.getElem?_drop]; simp
          obtain ⟨fs2, e1, e2, e3⟩ := c6 E.P _ st a w' pl' Z' R' c1 xs2 ⟨hxl, fun k av y hk hy => hrr k av y hk (by rw [← hxg k (List.getElem?_eq_some_iff.1 hk).1]; exact hy)⟩
          have hms2 : ∀ m ∈ ms2, st.has m ∧ m ∉ ms ∧ m ≠ 63 ∧ ∃ t rows p, lk st.s m = some (.arr t rows p) := fun m hm => by
            obtain ⟨t, rows, e⟩ := c5 m hm
            have := c1.mem e
            exact ⟨by unfold St.has St.O; rw [this]; rfl, fun h => c4 m hm (by simp [h]), fun h => c4 m hm (by simp [h]), t, rows, false, this⟩
          have hio0 : ∀ m ∈ ms ++ ms2, ∀ b ∈ pl'.own m, b ≠ i.b := by
            intro m hm b hb e
            rcases List.mem_append.1 hm with h | h
            · exact R'.dj m 63 (a4 m h) hn63 (fun e => h63m (e ▸ h)) b hb (by rw [hown, e]; exact List.mem_singleton.2 rfl)
            · obtain ⟨k1, k2, k3, k4⟩ := hms2 m h
              exact R'.dj m 63 k1 hn63 k3 b hb (by rw [hown, e]; exact List.mem_singleton.2 rfl)
          obtain ⟨x, xr, rfl⟩ : ∃ x xr, vals = x :: xr := by
            cases vals with
            | nil => simp at hlen
            | cons x xr => exact ⟨x, xr, rfl⟩
          have hout : OutsR E.P w' Z' (some i) ((.io lo hi', .agg row) :: r) (x :: xr) [.agg row'] (fs2.flatten ++ []) := by
            refine .io rfl ⟨?_, cc, ty, fs2, hc, by rw [c2]; exact hsz, e1, rfl, fun k av g hk hg => .inr ?_⟩ (outsR_pure hnr (fun v hv => hnm v (List.mem_cons_of_mem _ hv)) (by simpa using hlen))
            · rw [← hmask]
              apply List.ext_getElem
              · simp [c2]
              · intro k h1 h2
                simp only [List.getElem_map]
                have k1 : k < row2.length := by simpa using h1
                have k2 : k < row'.length := by simpa using h2
                rw [hna _ (List.getElem_mem k1)]
                rw [(e3 k _ _ _ (List.getElem?_eq_getElem k2) (List.getElem?_eq_getElem (by omega)) (List.getElem?_eq_getElem (by omega))).notNa]
            · have k2 : k < row2.length := by rw [← c2]; exact (List.getElem?_eq_some_iff.1 hk).1
              have k3 : k < xs2.length := by rw [hxl]; exact k2
              exact ⟨xs2[k], by rw [← hxg k k2]; exact List.getElem?_eq_getElem k3, e3 k av _ g hk (List.getElem?_eq_getElem k3) hg⟩
          have hall : fs.flatten ++ (fs2.flatten ++ []) = (ms ++ ms2).flatMap pl'.own := by rw [List.append_nil, b3, e2, List.flatMap_append]
          have hnda : (ms ++ ms2).Nodup := List.nodup_append.2 ⟨a2, c3, fun p hp q hq e => (hms2 q hq).2.1 (e ▸ hp)⟩
          have hhas : ∀ m ∈ ms ++ ms2, st.has m := fun m hm => (List.mem_append.1 hm).elim (a4 m) fun h => (hms2 m h).1
          refine ⟨Z', fs.flatten, fs2.flatten ++ [], R'.fr, R'.z0, hZ', hr, hout, by rw [hall]; exact own_nodup R' hnda hhas, fun b hb => ?_⟩
          rw [hall] at hb
          obtain ⟨m, hm', hb⟩ := List.mem_flatMap.1 hb
          obtain ⟨k1, k2, k3⟩ := hblk m (hhas m hm') b hb
          have k4 := hio0 m hm' b hb
          refine ⟨?_, k2, k3, fun i' hi'' => by cases hi''; exact k4⟩
          rcases k1 with h | h | ⟨i', hi'', h⟩
          · exact .inl h
          · exact .inr h
          · cases hi''; exact absurd h k4
        · exact h1.elim
    cases e with
    | normal => obtain ⟨st, pl', Z', k1, k2⟩ := hq; exact fine st pl' Z' k1 k2
    | ret => obtain ⟨st, pl', Z', k1, k2⟩ := hq; exact fine st pl' Z' k1 k2
    | exit id => obtain ⟨st, pl', Z', k1, k2⟩ := hq; exact k1.elim
    | _ => exact hq.elim
def okFn (fn : Func) (n : Nat) : Bool := fn.body.isSome && !(fn.name == "runtime.NumGoroutine") && codeOk fn.ntmps (fn.body.getD .skip) && Nat.ble n fn.ntmps
theorem fn_ok {f : Nat} {fn : Func} {ins : List (Mode × TV)} {outs : List TV} {res : TV} (hf : E.P.funcs[f]? = some fn) (hk : okFn fn ins.length = true)
    (h : fnVc E fn (fn.body.getD .skip) (enumF 0 ins) fun v os => v = res ∧ os = outs) : Sem E.P f ins outs res := by
  unfold okFn at hk
  simp only [Bool.and_eq_true, Bool.not_eq_true'] at hk
  obtain ⟨⟨⟨h1, h2⟩, h3⟩, h4⟩ := hk
  cases hb : fn.body with
  | none => rw [hb] at h1; cases h1
  | some c =>
    rw [hb] at h h3
    exact fn_sound hE hm hf hb h2 h3 h4 h
end
end Go.AM
end
section
namespace Go.AM
open Go
def bdA : Nat → AV → Prop
  | 0, _ => True
  | n + 1, .sl _ rows => rows.length ≤ 1125899906842624 ∧ ∀ row ∈ rows, ∀ a ∈ row, bdA n a
  | n + 1, .fr _ _ rows => rows.length ≤ 1125899906842624 ∧ ∀ row ∈ rows, ∀ a ∈ row, bdA n a
  | n + 1, .fp _ row _ => ∀ a ∈ row, bdA n a
  | _ + 1, _ => True
theorem flat_len {m : Nat} : ∀ {rows : List (List AV)}, (∀ row ∈ rows, row.length = m) → rows.flatten.length = rows.length * m
  | [], _ => by simp
  | r :: rs, h => by
    simp only [List.flatten_cons, List.length_append, List.length_cons, h r (by simp), flat_len (rows := rs) fun r hr => h r (by simp [hr]), Nat.add_mul, Nat.one_mul]; omega
theorem rd_bd {P : Program} {w : World} {S : Nat → Prop} {av : AV} {x : Value} (h : Rd P w S av x) : ∀ n, bdA n av := by
  induction h with
  | prim _ => intro n; cases n <;> trivial
  | emp => intro n; cases n <;> trivial
  | fn => intro n; cases n <;> trivial
  | @sl t rows a len cap cells hm hl hcap hw hn hb hc hr ih =>
    intro n
    cases n with
    | zero => trivial
    | succ n =>
      refine ⟨hm, fun row hrow a ha => ?_⟩
      obtain ⟨k, hk⟩ := List.mem_iff_getElem?.1 (List.mem_flatten.2 ⟨row, hrow, ha⟩)
      have h1 := (List.getElem?_eq_some_iff.1 hk).1
      rw [flat_len hw, ← hn] at h1
      exact ih k a _ hk (List.getElem?_eq_getElem h1) n
  | @fr ns t rows v h ih =>
    intro n
    have := ih n
    cases n with
    | zero => trivial
    | succ n => exact this
  | @fp ns row off b o cells hb hn hc hr ih =>
    intro n
    cases n with
    | zero => trivial
    | succ n =>
      intro a ha
      obtain ⟨k, hk⟩ := List.mem_iff_getElem?.1 ha
      have h1 := (List.getElem?_eq_some_iff.1 hk).1
      rw [← hn] at h1
      exact ih k a _ hk (List.getElem?_eq_getElem h1) n
theorem ow_bd {P : Program} {w : World} {Z : Nat → Prop} {av : AV} {x : Value} {f : List Nat} (h : Ow P w Z av x f) (n : Nat) : bdA n av := rd_bd (h.rd (S := fun _ => True) (fun _ _ => trivial) fun _ _ => trivial) n
def bdT : TV → Prop
  | .one a => bdA 4 a
  | .agg cs => ∀ a ∈ cs, bdA 4 a
  | .tup _ => True
def bdIns : List (Mode × TV) → Prop
  | [] => True
  | (_, v) :: r => bdT v ∧ bdIns r
theorem in_bd {P : Program} {w : World} {Z : Nat → Prop} {io : Option Io} {m : Mode} {v : TV} {x : Value} {f : List Nat} (h : InR P w Z io m v x f) : bdT v := by
  cases h with
  | pone h => exact rd_bd h 4
  | pagg h =>
    intro a ha
    obtain ⟨k, hk⟩ := List.mem_iff_getElem?.1 ha
    have h1 := (List.getElem?_eq_some_iff.1 hk).1
    rw [← h.1] at h1
    exact rd_bd (h.2 k a _ hk (List.getElem?_eq_getElem h1)) 4
  | oone h => exact ow_bd h 4
  | oagg h =>
    obtain ⟨fs, _, h2, h3, h4⟩ := h
    intro a ha
    obtain ⟨k, hk⟩ := List.mem_iff_getElem?.1 ha
    have h1 := (List.getElem?_eq_some_iff.1 hk).1
    exact ow_bd (h4 k a _ _ hk (List.getElem?_eq_getElem (h3 ▸ h1)) (List.getElem?_eq_getElem (h2 ▸ h1))) 4
  | mone h => exact ow_bd h 4
  | magg h =>
    obtain ⟨fs, _, h2, h3, h4⟩ := h
    intro a ha
    obtain ⟨k, hk⟩ := List.mem_iff_getElem?.1 ha
    have h1 := (List.getElem?_eq_some_iff.1 hk).1
    exact ow_bd (h4 k a _ _ hk (List.getElem?_eq_getElem (h3 ▸ h1)) (List.getElem?_eq_getElem (h2 ▸ h1))) 4
  | io he h =>
    obtain ⟨_, c, ty, fs, _, _, h2, _, h4⟩ := h
    intro a ha
    obtain ⟨k, hk⟩ := List.mem_iff_getElem?.1 ha
    have h1 := (List.getElem?_eq_some_iff.1 hk).1
    rcases h4 k a _ hk (List.getElem?_eq_getElem (h2 ▸ h1)) with ⟨rfl, _⟩ | ⟨x, _, h⟩
    · trivial
    · exact ow_bd h 4
theorem ins_bd {P : Program} {w : World} {Z : Nat → Prop} {io : Option Io} {ins : List (Mode × TV)} {vals : List Value} {f : List Nat} (h : InsR P w Z io ins vals f) : bdIns ins := by
  induction h with
  | nil => trivial
  | cons h _ ih => exact ⟨in_bd h, ih⟩
theorem fn_okB {E : Env} (hE : tabB E = true) (hm : E.P.follows .mixedOrders = true) {f : Nat} {fn : Func} {ins : List (Mode × TV)} {outs : List TV} {res : TV} (hf : E.P.funcs[f]? = some fn) (hk : okFn fn ins.length = true)
    (h : bdIns ins → fnVc E fn (fn.body.getD .skip) (enumF 0 ins) fun v os => v = res ∧ os = outs) : Sem E.P f ins outs res := by
  have hk' := hk
  unfold okFn at hk'
  simp only [Bool.and_eq_true, Bool.not_eq_true'] at hk'
  obtain ⟨⟨⟨h1, h2⟩, h3⟩, h4⟩ := hk'
  refine ⟨⟨fn, hf, by cases hb : fn.body with | none => rw [hb] at h1; cases h1 | some _ => rfl, h2⟩, fun w Z io vals fin hG hi => ?_⟩
  exact (fn_ok hE hm hf hk (h (ins_bd hi))).2 w Z io vals fin hG hi
end Go.AM
end
section
namespace Go.AM
open Go
theorem wrap64 {e : Int} (h1 : -9223372036854775808 ≤ e) (h2 : e ≤ 9223372036854775807) : IntKind.i64.wrap e = e := IntWalk.i64_in e ⟨h1, h2⟩
theorem w64 {e : Int} {k : Int → Prop} (h1 : -9223372036854775808 ≤ e) (h2 : e ≤ 9223372036854775807) (h : k e) : ∃ c, IntKind.i64.wrap e = c ∧ k c := ⟨e, wrap64 h1 h2, h⟩
theorem q64 {a b : Int} {k : Int → Prop} (hb : 0 < b) (ha : 0 ≤ a) (h2 : a ≤ 9223372036854775807) (h : k (a / b)) : b ≠ 0 ∧ ∃ c, IntKind.i64.wrap (a.tdiv b) = c ∧ k c := by
  refine ⟨by omega, a / b, ?_, h⟩
  rw [Int.tdiv_eq_ediv_of_nonneg ha]
  have h3 : 0 ≤ a / b := Int.ediv_nonneg ha (by omega)
  have h4 : a / b ≤ a := Int.ediv_le_self _ ha
  exact wrap64 (by omega) (by omega)
theorem r64 {a b : Int} {k : Int → Prop} (hb : 0 < b) (ha : 0 ≤ a) (h : k (a % b)) : b ≠ 0 ∧ ∃ c, a.tmod b = c ∧ k c :=
  ⟨by omega, a % b, Int.tmod_eq_emod_of_nonneg ha, h⟩
abbrev eI (n : Int) : AV := .prim (.int .i64 n)
abbrev eB (b : Bool) : AV := .prim (.bool b)
abbrev I (n : Int) : TV := .one (.prim (.int .i64 n))
abbrev B (b : Bool) : TV := .one (.prim (.bool b))
abbrev rI (n : Int) : List AV := [.prim (.int .i64 n)]
abbrev ints (l : List Int) : List (List AV) := l.map rI
end Go.AM
end
section
namespace Go.AM
open Go
set_option linter.unusedVariables false
section
variable {E : Env} {st : St}
end
end Go.AM
end
section
namespace Go.AM
open Go
set_option linter.unusedVariables false
section
variable {E : Env} {st : St} {uid : Nat}
end
end Go.AM
end
section
namespace Go.AM
open Go
set_option linter.unusedVariables false
section
variable {E : Env}
inductive Lp (E : Env) (c : Code) {α : Type} (inv : α → St) (μ : α → Nat) : α → Ex → St → Prop
  | done {a : α} {e : Ex} {st : St} (hne : e ≠ .normal) (h : ∀ k' : Ex → St → Prop, k' e st → vc E c (inv a) k') : Lp E c inv μ a e st
  | more {a a' : α} {s1 : St} {e : Ex} {st : St} (hm : μ a' < μ a) (hw : weak s1 (inv a')) (h : ∀ k' : Ex → St → Prop, k' .normal s1 → vc E c (inv a) k') (t : Lp E c inv μ a' e st) : Lp E c inv μ a e st
end
end Go.AM
end
section
namespace Go.AM
open Go
def T0 : List (Nat × TI) := [(1, ⟨.sc, 1, [.prim .nilFunc]⟩),
  (2, ⟨.sc, 1, [.prim (.int .i64 0)]⟩),
  (3, ⟨.sc, 1, [.prim (.int .i64 0)]⟩),
  (4, ⟨.sc, 1, [.prim (.bool false)]⟩),
  (5, ⟨.sc, 1, [.prim (.int .u8 0)]⟩),
  (6, ⟨.sc, 1, [.prim (.int .u8 0)]⟩),
  (7, ⟨.strct [(0, 2), (1, 3), (2, 4), (3, 6)], 4, [.prim (.int .i64 0), .prim (.int .i64 0), .prim (.bool false), .prim (.int .u8 0)]⟩),
  (8, ⟨.strct [(0, 2), (1, 3), (2, 4), (3, 6)], 4, [.prim (.int .i64 0), .prim (.int .i64 0), .prim (.bool false), .prim (.int .u8 0)]⟩),
  (9, ⟨.sc, 1, [.prim (.string ⟨#[]⟩)]⟩),
  (10, ⟨.sc, 1, [.prim (.string ⟨#[]⟩)]⟩),
  (11, ⟨.sc, 1, [.prim (.string ⟨#[]⟩)]⟩),
  (12, ⟨.sc, 1, [.prim (.int .u64 0)]⟩),
  (13, ⟨.strct [(0, 9), (1, 12)], 2, [.prim (.string ⟨#[]⟩), .prim (.int .u64 0)]⟩),
  (14, ⟨.strct [(0, 9), (1, 12)], 2, [.prim (.string ⟨#[]⟩), .prim (.int .u64 0)]⟩),
  (15, ⟨.ptr 435, 1, [.prim (.pointer none)]⟩),
  (16, ⟨.ptr 438, 1, [.prim (.pointer none)]⟩),
  (17, ⟨.ptr 446, 1, [.prim (.pointer none)]⟩),
  (18, ⟨.strct [(0, 17)], 1, [.prim (.pointer none)]⟩),
  (19, ⟨.strct [(0, 17)], 1, [.prim (.pointer none)]⟩),
  (21, ⟨.sc, 1, [.prim (.int .i32 0)]⟩),
  (22, ⟨.slice 5, 1, [.emp 5]⟩),
  (23, ⟨.slice 40, 1, [.emp 40]⟩),
  (24, ⟨.slice 3, 1, [.emp 3]⟩),
  (25, ⟨.strct [(0, 3), (1, 23), (2, 24), (3, 24)], 4, [.prim (.int .i64 0), .emp 40, .emp 3, .emp 3]⟩),
  (26, ⟨.strct [(0, 3), (1, 23), (2, 24), (3, 24)], 4, [.prim (.int .i64 0), .emp 40, .emp 3, .emp 3]⟩),
  (27, ⟨.slice 44, 1, [.emp 44]⟩),
  (29, ⟨.sc, 1, [.prim .nilFunc]⟩),
  (30, ⟨.slice 37, 1, [.emp 37]⟩),
  (32, ⟨.sc, 1, [.prim .nilFunc]⟩),
  (33, ⟨.sc, 1, [.prim .nilFunc]⟩),
  (34, ⟨.sc, 1, [.prim .nilFunc]⟩),
  (35, ⟨.sc, 1, [.prim .nilFunc]⟩),
  (36, ⟨.strct [(0, 3), (1, 24)], 2, [.prim (.int .i64 0), .emp 3]⟩),
  (37, ⟨.strct [(0, 3), (1, 24)], 2, [.prim (.int .i64 0), .emp 3]⟩),
  (39, ⟨.sc, 1, [.prim .nilFunc]⟩),
  (40, ⟨.slice 133, 1, [.emp 133]⟩),
  (41, ⟨.strct [(0, 3), (1, 3), (2, 3), (3, 24)], 4, [.prim (.int .i64 0), .prim (.int .i64 0), .prim (.int .i64 0), .emp 3]⟩),
  (42, ⟨.strct [(0, 3), (1, 3), (2, 3), (3, 24)], 4, [.prim (.int .i64 0), .prim (.int .i64 0), .prim (.int .i64 0), .emp 3]⟩),
  (43, ⟨.strct [(0, 42), (4, 37)], 6, [.prim (.int .i64 0), .prim (.int .i64 0), .prim (.int .i64 0), .emp 3, .prim (.int .i64 0), .emp 3]⟩),
  (44, ⟨.strct [(0, 42), (4, 37)], 6, [.prim (.int .i64 0), .prim (.int .i64 0), .prim (.int .i64 0), .emp 3, .prim (.int .i64 0), .emp 3]⟩),
  (45, ⟨.sc, 1, [.prim .nilFunc]⟩),
  (46, ⟨.sc, 1, [.prim .nilFunc]⟩),
  (47, ⟨.sc, 1, [.prim .nilFunc]⟩),
  (48, ⟨.slice 95, 1, [.emp 95]⟩),
  (49, ⟨.slice 113, 1, [.emp 113]⟩),
  (50, ⟨.slice 42, 1, [.emp 42]⟩),
  (51, ⟨.slice 188, 1, [.emp 188]⟩),
  (52, ⟨.strct [(0, 4), (1, 3), (2, 24), (3, 49), (4, 50), (5, 51)], 6, [.prim (.bool false), .prim (.int .i64 0), .emp 3, .emp 113, .emp 42, .emp 188]⟩),
  (53, ⟨.strct [(0, 4), (1, 3), (2, 24), (3, 49), (4, 50), (5, 51)], 6, [.prim (.bool false), .prim (.int .i64 0), .emp 3, .emp 113, .emp 42, .emp 188]⟩),
  (54, ⟨.slice 147, 1, [.emp 147]⟩),
  (55, ⟨.slice 90, 1, [.emp 90]⟩),
  (56, ⟨.strct [(0, 26), (4, 48), (5, 53), (11, 54), (12, 55), (13, 27)], 14, [.prim (.int .i64 0), .emp 40, .emp 3, .emp 3, .emp 95, .prim (.bool false), .prim (.int .i64 0), .emp 3, .emp 113, .emp 42, .emp 188, .emp 147, .emp 90, .emp 44]⟩),
  (57, ⟨.strct [(0, 26), (4, 48), (5, 53), (11, 54), (12, 55), (13, 27)], 14, [.prim (.int .i64 0), .emp 40, .emp 3, .emp 3, .emp 95, .prim (.bool false), .prim (.int .i64 0), .emp 3, .emp 113, .emp 42, .emp 188, .emp 147, .emp 90, .emp 44]⟩),
  (58, ⟨.sc, 1, [.prim .nilFunc]⟩),
  (59, ⟨.sc, 1, [.prim .nilFunc]⟩),
  (60, ⟨.sc, 1, [.prim .nilFunc]⟩),
  (61, ⟨.sc, 1, [.prim .nilFunc]⟩),
  (62, ⟨.sc, 1, [.prim .nilFunc]⟩),
  (63, ⟨.slice 322, 1, [.emp 322]⟩),
  (64, ⟨.strct [(0, 3), (1, 63), (2, 24), (3, 24)], 4, [.prim (.int .i64 0), .emp 322, .emp 3, .emp 3]⟩),
  (65, ⟨.strct [(0, 3), (1, 63), (2, 24), (3, 24)], 4, [.prim (.int .i64 0), .emp 322, .emp 3, .emp 3]⟩),
  (66, ⟨.slice 242, 1, [.emp 242]⟩),
  (67, ⟨.slice 325, 1, [.emp 325]⟩),
  (68, ⟨.slice 247, 1, [.emp 247]⟩),
  (69, ⟨.slice 328, 1, [.emp 328]⟩),
  (70, ⟨.strct [(0, 4), (1, 3), (2, 24), (3, 67), (4, 68), (5, 69)], 6, [.prim (.bool false), .prim (.int .i64 0), .emp 3, .emp 325, .emp 247, .emp 328]⟩),
  (71, ⟨.strct [(0, 4), (1, 3), (2, 24), (3, 67), (4, 68), (5, 69)], 6, [.prim (.bool false), .prim (.int .i64 0), .emp 3, .emp 325, .emp 247, .emp 328]⟩),
  (72, ⟨.slice 250, 1, [.emp 250]⟩),
  (73, ⟨.slice 253, 1, [.emp 253]⟩),
  (74, ⟨.slice 256, 1, [.emp 256]⟩),
  (75, ⟨.strct [(0, 65), (4, 66), (5, 71), (11, 72), (12, 73), (13, 74)], 14, [.prim (.int .i64 0), .emp 322, .emp 3, .emp 3, .emp 242, .prim (.bool false), .prim (.int .i64 0), .emp 3, .emp 325, .emp 247, .emp 328, .emp 250, .emp 253, .emp 256]⟩),
  (76, ⟨.strct [(0, 65), (4, 66), (5, 71), (11, 72), (12, 73), (13, 74)], 14, [.prim (.int .i64 0), .emp 322, .emp 3, .emp 3, .emp 242, .prim (.bool false), .prim (.int .i64 0), .emp 3, .emp 325, .emp 247, .emp 328, .emp 250, .emp 253, .emp 256]⟩),
  (77, ⟨.sc, 1, [.prim .nilFunc]⟩),
  (78, ⟨.sc, 1, [.prim .nilFunc]⟩),
  (79, ⟨.sc, 1, [.prim .nilFunc]⟩),
  (81, ⟨.sc, 1, [.prim .nilFunc]⟩),
  (83, ⟨.sc, 1, [.prim .nilFunc]⟩),
  (84, ⟨.sc, 1, [.prim .nilFunc]⟩),
  (85, ⟨.sc, 1, [.prim .nilFunc]⟩),
  (86, ⟨.sc, 1, [.prim .nilFunc]⟩),
  (87, ⟨.sc, 1, [.prim .nilFunc]⟩),
  (88, ⟨.sc, 1, [.prim .nilFunc]⟩),
  (89, ⟨.strct [(0, 3), (1, 3), (2, 3), (3, 3), (4, 42), (8, 24), (9, 24), (10, 49)], 11, [.prim (.int .i64 0), .prim (.int .i64 0), .prim (.int .i64 0), .prim (.int .i64 0), .prim (.int .i64 0), .prim (.int .i64 0), .prim (.int .i64 0), .emp 3, .emp 3, .emp 3, .emp 113]⟩),
  (90, ⟨.strct [(0, 3), (1, 3), (2, 3), (3, 3), (4, 42), (8, 24), (9, 24), (10, 49)], 11, [.prim (.int .i64 0), .prim (.int .i64 0), .prim (.int .i64 0), .prim (.int .i64 0), .prim (.int .i64 0), .prim (.int .i64 0), .prim (.int .i64 0), .emp 3, .emp 3, .emp 3, .emp 113]⟩),
  (92, ⟨.sc, 1, [.prim .nilFunc]⟩),
  (93, ⟨.sc, 1, [.prim .nilFunc]⟩),
  (94, ⟨.strct [(0, 4), (1, 4), (2, 3), (3, 24), (4, 24), (5, 49)], 6, [.prim (.bool false), .prim (.bool false), .prim (.int .i64 0), .emp 3, .emp 3, .emp 113]⟩),
  (95, ⟨.strct [(0, 4), (1, 4), (2, 3), (3, 24), (4, 24), (5, 49)], 6, [.prim (.bool false), .prim (.bool false), .prim (.int .i64 0), .emp 3, .emp 3, .emp 113]⟩),
  (97, ⟨.sc, 1, [.prim .nilFunc]⟩),
  (99, ⟨.sc, 1, [.prim .nilFunc]⟩),
  (100, ⟨.sc, 1, [.prim .nilFunc]⟩),
  (101, ⟨.sc, 1, [.prim .nilFunc]⟩),
  (103, ⟨.sc, 1, [.prim .nilFunc]⟩),
  (104, ⟨.sc, 1, [.prim .nilFunc]⟩),
  (106, ⟨.sc, 1, [.prim .nilFunc]⟩),
  (107, ⟨.sc, 1, [.prim .nilFunc]⟩),
  (108, ⟨.sc, 1, [.prim .nilFunc]⟩),
  (109, ⟨.sc, 1, [.prim .nilFunc]⟩),
  (110, ⟨.sc, 1, [.prim .nilFunc]⟩),
  (111, ⟨.sc, 1, [.prim .nilFunc]⟩),
  (112, ⟨.strct [(0, 3), (1, 37)], 3, [.prim (.int .i64 0), .prim (.int .i64 0), .emp 3]⟩),
  (113, ⟨.strct [(0, 3), (1, 37)], 3, [.prim (.int .i64 0), .prim (.int .i64 0), .emp 3]⟩),
  (114, ⟨.sc, 1, [.prim .nilFunc]⟩),
  (115, ⟨.sc, 1, [.prim .nilFunc]⟩),
  (116, ⟨.slice 24, 1, [.emp 24]⟩),
  (117, ⟨.sc, 1, [.prim .nilFunc]⟩),
  (118, ⟨.ptr 215, 1, [.prim (.pointer none)]⟩),
  (119, ⟨.sc, 1, [.prim .nilFunc]⟩),
  (120, ⟨.sc, 1, [.prim .nilFunc]⟩),
  (121, ⟨.sc, 1, [.prim .nilFunc]⟩),
  (122, ⟨.sc, 1, [.prim .nilFunc]⟩),
  (123, ⟨.sc, 1, [.prim .nilFunc]⟩),
  (124, ⟨.sc, 1, [.prim .nilFunc]⟩),
  (125, ⟨.sc, 1, [.prim .nilFunc]⟩),
  (126, ⟨.sc, 1, [.prim .nilFunc]⟩),
  (127, ⟨.sc, 1, [.prim .nilFunc]⟩),
  (128, ⟨.strct [(0, 24), (1, 24), (2, 3)], 3, [.emp 3, .emp 3, .prim (.int .i64 0)]⟩),
  (129, ⟨.strct [(0, 24), (1, 24), (2, 3)], 3, [.emp 3, .emp 3, .prim (.int .i64 0)]⟩),
  (130, ⟨.sc, 1, [.prim .nilFunc]⟩),
  (131, ⟨.sc, 1, [.prim .nilFunc]⟩),
  (132, ⟨.strct [(0, 3), (1, 3), (2, 3), (3, 129)], 6, [.prim (.int .i64 0), .prim (.int .i64 0), .prim (.int .i64 0), .emp 3, .emp 3, .prim (.int .i64 0)]⟩),
  (133, ⟨.strct [(0, 3), (1, 3), (2, 3), (3, 129)], 6, [.prim (.int .i64 0), .prim (.int .i64 0), .prim (.int .i64 0), .emp 3, .emp 3, .prim (.int .i64 0)]⟩),
  (134, ⟨.sc, 1, [.prim .nilFunc]⟩),
  (135, ⟨.sc, 1, [.prim .nilFunc]⟩),
  (136, ⟨.sc, 1, [.prim .nilFunc]⟩),
  (137, ⟨.sc, 1, [.prim .nilFunc]⟩),
  (138, ⟨.sc, 1, [.prim .nilFunc]⟩),
  (139, ⟨.sc, 1, [.prim .nilFunc]⟩),
  (140, ⟨.sc, 1, [.prim .nilFunc]⟩),
  (141, ⟨.sc, 1, [.prim .nilFunc]⟩),
  (142, ⟨.sc, 1, [.prim .nilFunc]⟩),
  (143, ⟨.sc, 1, [.prim .nilFunc]⟩),
  (144, ⟨.sc, 1, [.prim .nilFunc]⟩),
  (145, ⟨.sc, 1, [.prim .nilFunc]⟩),
  (146, ⟨.strct [(0, 3), (1, 4), (2, 42), (6, 37)], 8, [.prim (.int .i64 0), .prim (.bool false), .prim (.int .i64 0), .prim (.int .i64 0), .prim (.int .i64 0), .emp 3, .prim (.int .i64 0), .emp 3]⟩),
  (147, ⟨.strct [(0, 3), (1, 4), (2, 42), (6, 37)], 8, [.prim (.int .i64 0), .prim (.bool false), .prim (.int .i64 0), .prim (.int .i64 0), .prim (.int .i64 0), .emp 3, .prim (.int .i64 0), .emp 3]⟩),
  (148, ⟨.sc, 1, [.prim .nilFunc]⟩),
  (149, ⟨.sc, 1, [.prim .nilFunc]⟩),
  (150, ⟨.sc, 1, [.prim .nilFunc]⟩),
  (151, ⟨.strct [(0, 24), (1, 24)], 2, [.emp 3, .emp 3]⟩),
  (152, ⟨.strct [(0, 24), (1, 24)], 2, [.emp 3, .emp 3]⟩),
  (153, ⟨.slice 4, 1, [.emp 4]⟩),
  (154, ⟨.strct [(0, 23), (1, 116), (2, 153)], 3, [.emp 40, .emp 24, .emp 4]⟩),
  (155, ⟨.strct [(0, 23), (1, 116), (2, 153)], 3, [.emp 40, .emp 24, .emp 4]⟩),
  (156, ⟨.sc, 1, [.prim .nilFunc]⟩),
  (157, ⟨.sc, 1, [.prim .nilFunc]⟩),
  (158, ⟨.sc, 1, [.prim .nilFunc]⟩),
  (159, ⟨.sc, 1, [.prim .nilFunc]⟩),
  (160, ⟨.sc, 1, [.prim .nilFunc]⟩),
  (161, ⟨.sc, 1, [.prim .nilFunc]⟩),
  (162, ⟨.sc, 1, [.prim .nilFunc]⟩),
  (163, ⟨.sc, 1, [.prim .nilFunc]⟩),
  (164, ⟨.sc, 1, [.prim .nilFunc]⟩),
  (165, ⟨.sc, 1, [.prim .nilFunc]⟩),
  (166, ⟨.sc, 1, [.prim .nilFunc]⟩),
  (167, ⟨.sc, 1, [.prim .nilFunc]⟩),
  (168, ⟨.sc, 1, [.prim .nilFunc]⟩),
  (169, ⟨.sc, 1, [.prim .nilFunc]⟩),
  (170, ⟨.sc, 1, [.prim .nilFunc]⟩),
  (171, ⟨.sc, 1, [.prim .nilFunc]⟩),
  (172, ⟨.sc, 1, [.prim .nilFunc]⟩),
  (173, ⟨.sc, 1, [.prim .nilFunc]⟩),
  (174, ⟨.sc, 1, [.prim .nilFunc]⟩),
  (175, ⟨.sc, 1, [.prim .nilFunc]⟩),
  (176, ⟨.sc, 1, [.prim .nilFunc]⟩),
  (177, ⟨.sc, 1, [.prim .nilFunc]⟩),
  (178, ⟨.sc, 1, [.prim .nilFunc]⟩),
  (179, ⟨.sc, 1, [.prim .nilFunc]⟩),
  (180, ⟨.sc, 1, [.prim .nilFunc]⟩),
  (181, ⟨.sc, 1, [.prim .nilFunc]⟩),
  (183, ⟨.sc, 1, [.prim .nilFunc]⟩),
  (185, ⟨.sc, 1, [.prim .nilFunc]⟩),
  (186, ⟨.sc, 1, [.prim .nilFunc]⟩),
  (187, ⟨.strct [(0, 4), (1, 24), (2, 24)], 3, [.prim (.bool false), .emp 3, .emp 3]⟩),
  (188, ⟨.strct [(0, 4), (1, 24), (2, 24)], 3, [.prim (.bool false), .emp 3, .emp 3]⟩),
  (189, ⟨.sc, 1, [.prim .nilFunc]⟩),
  (191, ⟨.sc, 1, [.prim .nilFunc]⟩),
  (192, ⟨.sc, 1, [.prim .nilFunc]⟩),
  (193, ⟨.sc, 1, [.prim .nilFunc]⟩),
  (194, ⟨.sc, 1, [.prim .nilFunc]⟩),
  (195, ⟨.sc, 1, [.prim .nilFunc]⟩),
  (197, ⟨.sc, 1, [.prim .nilFunc]⟩),
  (198, ⟨.sc, 1, [.prim .nilFunc]⟩),
  (199, ⟨.sc, 1, [.prim .nilFunc]⟩),
  (200, ⟨.sc, 1, [.prim .nilFunc]⟩),
  (202, ⟨.sc, 1, [.prim .nilFunc]⟩),
  (204, ⟨.sc, 1, [.prim .nilFunc]⟩),
  (205, ⟨.sc, 1, [.prim .nilFunc]⟩),
  (206, ⟨.sc, 1, [.prim .nilFunc]⟩),
  (207, ⟨.sc, 1, [.prim .nilFunc]⟩),
  (208, ⟨.sc, 1, [.prim .nilFunc]⟩),
  (209, ⟨.sc, 1, [.prim .nilFunc]⟩),
  (210, ⟨.sc, 1, [.prim .nilFunc]⟩),
  (211, ⟨.sc, 1, [.prim .nilFunc]⟩),
  (212, ⟨.sc, 1, [.prim .nilFunc]⟩),
  (213, ⟨.sc, 1, [.prim .nilFunc]⟩),
  (214, ⟨.strct [(0, 22), (1, 3)], 2, [.emp 5, .prim (.int .i64 0)]⟩),
  (215, ⟨.strct [(0, 22), (1, 3)], 2, [.emp 5, .prim (.int .i64 0)]⟩),
  (216, ⟨.sc, 1, [.prim .nilFunc]⟩),
  (217, ⟨.sc, 1, [.prim .nilFunc]⟩),
  (218, ⟨.sc, 1, [.prim .nilFunc]⟩),
  (219, ⟨.sc, 1, [.prim .nilFunc]⟩),
  (220, ⟨.sc, 1, [.prim .nilFunc]⟩),
  (221, ⟨.sc, 1, [.prim .nilFunc]⟩),
  (222, ⟨.sc, 1, [.prim .nilFunc]⟩),
  (223, ⟨.sc, 1, [.prim .nilFunc]⟩),
  (224, ⟨.sc, 1, [.prim .nilFunc]⟩),
  (225, ⟨.sc, 1, [.prim .nilFunc]⟩),
  (226, ⟨.sc, 1, [.prim .nilFunc]⟩),
  (227, ⟨.sc, 1, [.prim .nilFunc]⟩),
  (228, ⟨.sc, 1, [.prim .nilFunc]⟩),
  (229, ⟨.sc, 1, [.prim .nilFunc]⟩),
  (230, ⟨.sc, 1, [.prim .nilFunc]⟩),
  (231, ⟨.sc, 1, [.prim .nilFunc]⟩),
  (232, ⟨.sc, 1, [.prim .nilFunc]⟩),
  (233, ⟨.sc, 1, [.prim .nilFunc]⟩),
  (234, ⟨.sc, 1, [.prim .nilFunc]⟩),
  (235, ⟨.sc, 1, [.prim .nilFunc]⟩),
  (236, ⟨.sc, 1, [.prim .nilFunc]⟩),
  (237, ⟨.sc, 1, [.prim .nilFunc]⟩),
  (238, ⟨.sc, 1, [.prim .nilFunc]⟩),
  (239, ⟨.sc, 1, [.prim .nilFunc]⟩),
  (240, ⟨.sc, 1, [.prim .nilFunc]⟩),
  (241, ⟨.strct [(0, 4), (1, 4), (2, 3), (3, 24), (4, 24), (5, 67)], 6, [.prim (.bool false), .prim (.bool false), .prim (.int .i64 0), .emp 3, .emp 3, .emp 325]⟩),
  (242, ⟨.strct [(0, 4), (1, 4), (2, 3), (3, 24), (4, 24), (5, 67)], 6, [.prim (.bool false), .prim (.bool false), .prim (.int .i64 0), .emp 3, .emp 3, .emp 325]⟩),
  (243, ⟨.sc, 1, [.prim .nilFunc]⟩),
  (244, ⟨.sc, 1, [.prim .nilFunc]⟩),
  (245, ⟨.sc, 1, [.prim .nilFunc]⟩),
  (246, ⟨.sc, 1, [.prim .nilFunc]⟩),
  (247, ⟨.strct [(0, 3), (1, 3), (2, 3), (3, 24)], 4, [.prim (.int .i64 0), .prim (.int .i64 0), .prim (.int .i64 0), .emp 3]⟩),
  (248, ⟨.strct [(0, 3), (1, 24)], 2, [.prim (.int .i64 0), .emp 3]⟩),
  (249, ⟨.strct [(0, 3), (1, 4), (2, 247), (6, 248)], 8, [.prim (.int .i64 0), .prim (.bool false), .prim (.int .i64 0), .prim (.int .i64 0), .prim (.int .i64 0), .emp 3, .prim (.int .i64 0), .emp 3]⟩),
  (250, ⟨.strct [(0, 3), (1, 4), (2, 247), (6, 248)], 8, [.prim (.int .i64 0), .prim (.bool false), .prim (.int .i64 0), .prim (.int .i64 0), .prim (.int .i64 0), .emp 3, .prim (.int .i64 0), .emp 3]⟩),
  (251, ⟨.sc, 1, [.prim .nilFunc]⟩),
  (252, ⟨.strct [(0, 3), (1, 3), (2, 3), (3, 3), (4, 247), (8, 24), (9, 24), (10, 67)], 11, [.prim (.int .i64 0), .prim (.int .i64 0), .prim (.int .i64 0), .prim (.int .i64 0), .prim (.int .i64 0), .prim (.int .i64 0), .prim (.int .i64 0), .emp 3, .emp 3, .emp 3, .emp 325]⟩),
  (253, ⟨.strct [(0, 3), (1, 3), (2, 3), (3, 3), (4, 247), (8, 24), (9, 24), (10, 67)], 11, [.prim (.int .i64 0), .prim (.int .i64 0), .prim (.int .i64 0), .prim (.int .i64 0), .prim (.int .i64 0), .prim (.int .i64 0), .prim (.int .i64 0), .emp 3, .emp 3, .emp 3, .emp 325]⟩),
  (254, ⟨.sc, 1, [.prim .nilFunc]⟩),
  (255, ⟨.strct [(0, 247), (4, 248)], 6, [.prim (.int .i64 0), .prim (.int .i64 0), .prim (.int .i64 0), .emp 3, .prim (.int .i64 0), .emp 3]⟩),
  (256, ⟨.strct [(0, 247), (4, 248)], 6, [.prim (.int .i64 0), .prim (.int .i64 0), .prim (.int .i64 0), .emp 3, .prim (.int .i64 0), .emp 3]⟩),
  (257, ⟨.sc, 1, [.prim .nilFunc]⟩),
  (258, ⟨.sc, 1, [.prim .nilFunc]⟩),
  (259, ⟨.sc, 1, [.prim .nilFunc]⟩),
  (260, ⟨.sc, 1, [.prim .nilFunc]⟩),
  (261, ⟨.sc, 1, [.prim .nilFunc]⟩),
  (262, ⟨.sc, 1, [.prim .nilFunc]⟩),
  (263, ⟨.sc, 1, [.prim .nilFunc]⟩),
  (264, ⟨.sc, 1, [.prim .nilFunc]⟩),
  (265, ⟨.sc, 1, [.prim .nilFunc]⟩),
  (266, ⟨.sc, 1, [.prim .nilFunc]⟩),
  (267, ⟨.sc, 1, [.prim .nilFunc]⟩),
  (268, ⟨.sc, 1, [.prim .nilFunc]⟩),
  (269, ⟨.slice 9, 1, [.emp 9]⟩),
  (270, ⟨.sc, 1, [.prim .nilFunc]⟩),
  (271, ⟨.sc, 1, [.prim .nilFunc]⟩),
  (272, ⟨.sc, 1, [.prim .nilFunc]⟩),
  (273, ⟨.sc, 1, [.prim .nilFunc]⟩),
  (274, ⟨.sc, 1, [.prim .nilFunc]⟩),
  (275, ⟨.sc, 1, [.prim .nilFunc]⟩),
  (276, ⟨.sc, 1, [.prim .nilFunc]⟩),
  (277, ⟨.ptr 53, 1, [.prim (.pointer none)]⟩),
  (278, ⟨.sc, 1, [.prim .nilFunc]⟩),
  (279, ⟨.sc, 1, [.prim .nilFunc]⟩),
  (280, ⟨.sc, 1, [.prim .nilFunc]⟩),
  (281, ⟨.sc, 1, [.prim .nilFunc]⟩),
  (282, ⟨.sc, 1, [.prim .nilFunc]⟩),
  (283, ⟨.sc, 1, [.prim .nilFunc]⟩),
  (284, ⟨.slice 289, 1, [.emp 289]⟩),
  (285, ⟨.sc, 1, [.prim .nilFunc]⟩),
  (286, ⟨.sc, 1, [.prim .nilFunc]⟩),
  (287, ⟨.slice 129, 1, [.emp 129]⟩),
  (288, ⟨.strct [(0, 287), (1, 287), (2, 287), (3, 4)], 4, [.emp 129, .emp 129, .emp 129, .prim (.bool false)]⟩),
  (289, ⟨.strct [(0, 287), (1, 287), (2, 287), (3, 4)], 4, [.emp 129, .emp 129, .emp 129, .prim (.bool false)]⟩),
  (290, ⟨.sc, 1, [.prim .nilFunc]⟩),
  (291, ⟨.sc, 1, [.prim .nilFunc]⟩),
  (292, ⟨.sc, 1, [.prim .nilFunc]⟩),
  (293, ⟨.slice 340, 1, [.emp 340]⟩),
  (295, ⟨.sc, 1, [.prim .nilFunc]⟩),
  (296, ⟨.sc, 1, [.prim .nilFunc]⟩),
  (297, ⟨.sc, 1, [.prim .nilFunc]⟩),
  (298, ⟨.sc, 1, [.prim .nilFunc]⟩),
  (299, ⟨.sc, 1, [.prim .nilFunc]⟩),
  (300, ⟨.sc, 1, [.prim .nilFunc]⟩),
  (301, ⟨.ptr 95, 1, [.prim (.pointer none)]⟩),
  (302, ⟨.sc, 1, [.prim .nilFunc]⟩),
  (303, ⟨.sc, 1, [.prim .nilFunc]⟩),
  (304, ⟨.sc, 1, [.prim .nilFunc]⟩),
  (305, ⟨.sc, 1, [.prim .nilFunc]⟩),
  (306, ⟨.sc, 1, [.prim .nilFunc]⟩),
  (307, ⟨.sc, 1, [.prim .nilFunc]⟩),
  (308, ⟨.sc, 1, [.prim .nilFunc]⟩),
  (309, ⟨.sc, 1, [.prim .nilFunc]⟩),
  (310, ⟨.sc, 1, [.prim .nilFunc]⟩),
  (311, ⟨.sc, 1, [.prim .nilFunc]⟩),
  (312, ⟨.sc, 1, [.prim .nilFunc]⟩),
  (313, ⟨.sc, 1, [.prim .nilFunc]⟩),
  (314, ⟨.sc, 1, [.prim .nilFunc]⟩),
  (315, ⟨.sc, 1, [.prim .nilFunc]⟩),
  (316, ⟨.sc, 1, [.prim .nilFunc]⟩),
  (317, ⟨.sc, 1, [.prim .nilFunc]⟩),
  (318, ⟨.sc, 1, [.prim .nilFunc]⟩),
  (319, ⟨.sc, 1, [.prim .nilFunc]⟩),
  (320, ⟨.sc, 1, [.prim .nilFunc]⟩),
  (321, ⟨.sc, 1, [.prim .nilFunc]⟩),
  (322, ⟨.slice 373, 1, [.emp 373]⟩),
  (323, ⟨.sc, 1, [.prim .nilFunc]⟩),
  (324, ⟨.strct [(0, 3), (1, 248)], 3, [.prim (.int .i64 0), .prim (.int .i64 0), .emp 3]⟩),
  (325, ⟨.strct [(0, 3), (1, 248)], 3, [.prim (.int .i64 0), .prim (.int .i64 0), .emp 3]⟩),
  (326, ⟨.sc, 1, [.prim .nilFunc]⟩),
  (327, ⟨.sc, 1, [.prim .nilFunc]⟩),
  (328, ⟨.strct [(0, 4), (1, 24), (2, 24)], 3, [.prim (.bool false), .emp 3, .emp 3]⟩),
  (329, ⟨.sc, 1, [.prim .nilFunc]⟩),
  (330, ⟨.sc, 1, [.prim .nilFunc]⟩),
  (331, ⟨.sc, 1, [.prim .nilFunc]⟩),
  (332, ⟨.sc, 1, [.prim .nilFunc]⟩),
  (333, ⟨.sc, 1, [.prim .nilFunc]⟩),
  (334, ⟨.sc, 1, [.prim .nilFunc]⟩),
  (335, ⟨.sc, 1, [.prim .nilFunc]⟩),
  (336, ⟨.sc, 1, [.prim .nilFunc]⟩),
  (337, ⟨.sc, 1, [.prim .nilFunc]⟩),
  (338, ⟨.sc, 1, [.prim .nilFunc]⟩),
  (339, ⟨.strct [(0, 3), (1, 3), (2, 3), (3, 24)], 4, [.prim (.int .i64 0), .prim (.int .i64 0), .prim (.int .i64 0), .emp 3]⟩),
  (340, ⟨.strct [(0, 3), (1, 3), (2, 3), (3, 24)], 4, [.prim (.int .i64 0), .prim (.int .i64 0), .prim (.int .i64 0), .emp 3]⟩),
  (341, ⟨.sc, 1, [.prim .nilFunc]⟩),
  (342, ⟨.sc, 1, [.prim .nilFunc]⟩),
  (343, ⟨.sc, 1, [.prim .nilFunc]⟩),
  (344, ⟨.sc, 1, [.prim .nilFunc]⟩),
  (346, ⟨.sc, 1, [.prim .nilFunc]⟩),
  (347, ⟨.sc, 1, [.prim .nilFunc]⟩),
  (348, ⟨.sc, 1, [.prim .nilFunc]⟩),
  (349, ⟨.sc, 1, [.prim .nilFunc]⟩),
  (350, ⟨.sc, 1, [.prim .nilFunc]⟩),
  (351, ⟨.sc, 1, [.prim .nilFunc]⟩),
  (352, ⟨.sc, 1, [.prim .nilFunc]⟩),
  (353, ⟨.sc, 1, [.prim .nilFunc]⟩),
  (354, ⟨.sc, 1, [.prim .nilFunc]⟩),
  (355, ⟨.sc, 1, [.prim .nilFunc]⟩),
  (356, ⟨.sc, 1, [.prim .nilFunc]⟩),
  (357, ⟨.sc, 1, [.prim .nilFunc]⟩),
  (358, ⟨.sc, 1, [.prim .nilFunc]⟩),
  (359, ⟨.sc, 1, [.prim .nilFunc]⟩),
  (360, ⟨.sc, 1, [.prim .nilFunc]⟩),
  (361, ⟨.ptr 363, 1, [.prim (.pointer none)]⟩),
  (362, ⟨.strct [(0, 40), (1, 284)], 2, [.emp 133, .emp 289]⟩),
  (363, ⟨.strct [(0, 40), (1, 284)], 2, [.emp 133, .emp 289]⟩),
  (364, ⟨.sc, 1, [.prim .nilFunc]⟩),
  (365, ⟨.sc, 1, [.prim .nilFunc]⟩),
  (366, ⟨.sc, 1, [.prim .nilFunc]⟩),
  (367, ⟨.sc, 1, [.prim .nilFunc]⟩),
  (368, ⟨.sc, 1, [.prim .nilFunc]⟩),
  (369, ⟨.sc, 1, [.prim .nilFunc]⟩),
  (370, ⟨.sc, 1, [.prim .nilFunc]⟩),
  (371, ⟨.strct [(0, 24), (1, 24), (2, 3)], 3, [.emp 3, .emp 3, .prim (.int .i64 0)]⟩),
  (372, ⟨.strct [(0, 3), (1, 3), (2, 3), (3, 371)], 6, [.prim (.int .i64 0), .prim (.int .i64 0), .prim (.int .i64 0), .emp 3, .emp 3, .prim (.int .i64 0)]⟩),
  (373, ⟨.strct [(0, 3), (1, 3), (2, 3), (3, 371)], 6, [.prim (.int .i64 0), .prim (.int .i64 0), .prim (.int .i64 0), .emp 3, .emp 3, .prim (.int .i64 0)]⟩),
  (374, ⟨.sc, 1, [.prim .nilFunc]⟩),
  (375, ⟨.sc, 1, [.prim .nilFunc]⟩),
  (376, ⟨.sc, 1, [.prim .nilFunc]⟩),
  (377, ⟨.sc, 1, [.prim .nilFunc]⟩),
  (378, ⟨.sc, 1, [.prim .nilFunc]⟩),
  (379, ⟨.sc, 1, [.prim .nilFunc]⟩),
  (380, ⟨.sc, 1, [.prim .nilFunc]⟩),
  (381, ⟨.sc, 1, [.prim .nilFunc]⟩),
  (382, ⟨.sc, 1, [.prim .nilFunc]⟩),
  (384, ⟨.sc, 1, [.prim .nilFunc]⟩),
  (385, ⟨.sc, 1, [.prim .nilFunc]⟩),
  (386, ⟨.sc, 1, [.prim .nilFunc]⟩),
  (387, ⟨.sc, 1, [.prim .nilFunc]⟩),
  (388, ⟨.sc, 1, [.prim .nilFunc]⟩),
  (389, ⟨.ptr 391, 1, [.prim (.pointer none)]⟩),
  (390, ⟨.strct [(0, 389), (1, 22)], 2, [.prim (.pointer none), .emp 5]⟩),
  (391, ⟨.strct [(0, 389), (1, 22)], 2, [.prim (.pointer none), .emp 5]⟩),
  (395, ⟨.sc, 1, [.prim .nilFunc]⟩),
  (396, ⟨.sc, 1, [.prim .nilFunc]⟩),
  (397, ⟨.sc, 1, [.prim .nilFunc]⟩),
  (398, ⟨.sc, 1, [.prim .nilFunc]⟩),
  (399, ⟨.slice 287, 1, [.emp 287]⟩),
  (400, ⟨.sc, 1, [.prim .nilFunc]⟩),
  (401, ⟨.sc, 1, [.prim .nilFunc]⟩),
  (402, ⟨.sc, 1, [.prim .nilFunc]⟩),
  (403, ⟨.sc, 1, [.prim .nilFunc]⟩),
  (404, ⟨.sc, 1, [.prim .nilFunc]⟩),
  (405, ⟨.sc, 1, [.prim .nilFunc]⟩),
  (406, ⟨.sc, 1, [.prim .nilFunc]⟩),
  (407, ⟨.sc, 1, [.prim .nilFunc]⟩),
  (408, ⟨.sc, 1, [.prim .nilFunc]⟩),
  (409, ⟨.sc, 1, [.prim .nilFunc]⟩),
  (410, ⟨.ptr 5, 1, [.prim (.pointer none)]⟩),
  (411, ⟨.sc, 1, [.prim .nilFunc]⟩),
  (412, ⟨.sc, 1, [.prim .nilFunc]⟩),
  (414, ⟨.sc, 1, [.prim .nilFunc]⟩),
  (416, ⟨.sc, 1, [.prim .nilFunc]⟩),
  (417, ⟨.sc, 1, [.prim .nilFunc]⟩),
  (418, ⟨.ptr 129, 1, [.prim (.pointer none)]⟩),
  (420, ⟨.sc, 1, [.prim (.int .u64 0)]⟩),
  (421, ⟨.sc, 1, [.prim .nilFunc]⟩),
  (422, ⟨.sc, 1, [.prim .nilFunc]⟩),
  (424, ⟨.sc, 1, [.prim .nilFunc]⟩),
  (425, ⟨.sc, 1, [.prim .nilFunc]⟩),
  (427, ⟨.sc, 1, [.prim (.int .u32 0)]⟩),
  (429, ⟨.sc, 1, [.prim (.int .u64 0)]⟩),
  (430, ⟨.sc, 1, [.prim .nilFunc]⟩),
  (431, ⟨.sc, 1, [.prim .nilFunc]⟩),
  (434, ⟨.strct [(0, 17), (1, 17), (2, 17), (3, 9)], 4, [.prim (.pointer none), .prim (.pointer none), .prim (.pointer none), .prim (.string ⟨#[]⟩)]⟩),
  (435, ⟨.strct [(0, 17), (1, 17), (2, 17), (3, 9)], 4, [.prim (.pointer none), .prim (.pointer none), .prim (.pointer none), .prim (.string ⟨#[]⟩)]⟩),
  (439, ⟨.sc, 1, [.prim .nilFunc]⟩),
  (440, ⟨.sc, 1, [.prim (.int .u8 0)]⟩),
  (441, ⟨.sc, 1, [.prim (.int .u8 0)]⟩),
  (442, ⟨.sc, 1, [.prim .nilFunc]⟩),
  (443, ⟨.sc, 1, [.prim (.int .i32 0)]⟩),
  (444, ⟨.sc, 1, [.prim (.int .i32 0)]⟩),
  (445, ⟨.strct [(0, 12), (1, 12), (2, 427), (3, 440), (4, 5), (5, 5), (6, 441), (7, 442), (8, 410), (9, 443), (10, 444)], 11, [.prim (.int .u64 0), .prim (.int .u64 0), .prim (.int .u32 0), .prim (.int .u8 0), .prim (.int .u8 0), .prim (.int .u8 0), .prim (.int .u8 0), .prim .nilFunc, .prim (.pointer none), .prim (.int .i32 0), .prim (.int .i32 0)]⟩),
  (446, ⟨.strct [(0, 12), (1, 12), (2, 427), (3, 440), (4, 5), (5, 5), (6, 441), (7, 442), (8, 410), (9, 443), (10, 444)], 11, [.prim (.int .u64 0), .prim (.int .u64 0), .prim (.int .u32 0), .prim (.int .u8 0), .prim (.int .u8 0), .prim (.int .u8 0), .prim (.int .u8 0), .prim .nilFunc, .prim (.pointer none), .prim (.int .i32 0), .prim (.int .i32 0)]⟩),
  (447, ⟨.sc, 1, [.prim .nilFunc]⟩),
  (448, ⟨.sc, 1, [.prim .nilFunc]⟩)]
def M0 : List (Nat × List Mode) := [(71, [.io 0 0]), (72, [.io 0 0]), (73, [.io 0 0]), (74, [.io 0 0]), (136, [.io 0 0]), (138, [.io 0 0]), (141, [.io 0 0]), (145, [.io 0 0]), (146, [.io 0 0]), (147, [.io 0 0]), (149, [.io 0 0]), (152, [.io 0 0]), (154, [.io 0 0]), (157, [.io 0 0]), (158, [.io 0 0]), (166, [.io 0 0]), (168, [.io 0 0]), (169, [.io 0 0]), (170, [.io 0 0]), (171, [.io 0 0]), (185, [.pure, .own, .own]), (241, [.io 0 0]), (245, [.io 0 0]), (258, [.io 0 0]), (261, [.io 0 0]), (264, [.io 0 0]), (266, [.io 0 0]), (268, [.io 0 0]), (276, [.io 0 0]), (277, [.io 0 0]), (317, [.io 0 0]), (319, [.pure, .pure, .own, .own, .own]), (320, [.io 0 0]), (321, [.io 0 0]), (322, [.io 0 0]), (334, [.io 0 0]), (335, [.io 0 0]), (336, [.io 0 0]), (342, [.io 0 0, .pure, .own, .own, .own]), (361, [.own]), (367, [.own]), (369, [.io 0 0]), (377, [.own, .pure]), (383, [.own]), (384, [.own]), (385, [.own]), (386, [.own]), (387, [.own]), (389, [.own]), (395, [.io 0 0]), (398, [.own])]
noncomputable def E0 : Env := { P := Go.Proofs.Tryz.prog, T := T0, M := M0, cut := [], keep := [], fz := [] }
theorem E0_tab : tabB E0 = true := by kernel_rfl
theorem E0_ord : E0.P.follows .mixedOrders = true := by kernel_rfl
noncomputable abbrev P := Go.Proofs.Tryz.prog
end Go.AM
end
section
namespace Go.AM
open Go
def pickT : List Nat → List (Nat × TV) → List (Nat × TV)
  | [], _ => []
  | n :: r, t => match lk t n with
    | some v => (n, v) :: pickT r t
    | none => pickT r t
def dropO : List (Nat × Ob) → List (Nat × Ob) → List (Nat × Ob)
  | _, [] => []
  | o, (n, x) :: r => match lk o n with
    | some _ => dropO o r
    | none => (n, x) :: dropO o r
def updL (live : List Nat) (ov : List (Nat × TV)) (oov : List (Nat × Ob)) : St → St
  | ⟨t, s, u⟩ => ⟨ov ++ pickT live t, oov ++ dropO oov s, u⟩
def fSt (st : St) (k : St → Prop) : Prop := match st with
  | ⟨t, s, u⟩ => fTs t fun t' => fOs s fun s' => k ⟨t', s', u⟩
theorem fSt_eq (st : St) (k : St → Prop) : fSt st k = k st := by obtain ⟨t, s, u⟩ := st; simp only [fSt, fTs_eq, fOs_eq]
theorem rB {x y : Bool} (h : x = y) : TV.one (.prim (.bool x)) = B y ∧ ([] : List TV) = [] := ⟨by rw [h], rfl⟩
theorem rI' {x y : Int} (h : x = y) : TV.one (.prim (.int .i64 x)) = I y ∧ ([] : List TV) = [] := ⟨by rw [h], rfl⟩
theorem ne_of_bne {a b : Int} (h : (a != b) = true) : a ≠ b := by simpa using h
theorem eq_of_bne {a b : Int} (h : (a != b) = false) : a = b := by simpa using h
theorem ixN {α : Type} {L : List α} {enc : α → List AV} {i : Nat} {k : List AV → Prop} (d : α) (h : i < L.length) (hk : k (enc (L.getD i d))) : 0 ≤ (i : Int) ∧ ∃ row, (L.map enc)[((i : Int)).toNat]? = some row ∧ k row :=
  ⟨by omega, _, by rw [Int.toNat_natCast, List.getElem?_map, List.getElem?_eq_getElem h, List.getD_eq_getElem?_getD, List.getElem?_eq_getElem h]; rfl, hk⟩
theorem ixI {α : Type} {L : List α} {enc : α → List AV} {i : Int} {k : List AV → Prop} (d : α) (h0 : 0 ≤ i) (h : i < L.length) (hk : k (enc (L.getD i.toNat d))) : 0 ≤ i ∧ ∃ row, (L.map enc)[i.toNat]? = some row ∧ k row :=
  ⟨h0, _, by rw [List.getElem?_map, List.getElem?_eq_getElem (by omega), List.getD_eq_getElem?_getD, List.getElem?_eq_getElem (by omega)]; rfl, hk⟩
theorem rwN {α : Type} {L : List α} {enc : α → List AV} {i : Nat} {k : List AV → Prop} (d : α) (h : i < L.length) (hk : k (enc (L.getD i d))) : ∃ row, (L.map enc)[i]? = some row ∧ k row :=
  ⟨_, by rw [List.getElem?_map, List.getElem?_eq_getElem h, List.getD_eq_getElem?_getD, List.getElem?_eq_getElem h]; rfl, hk⟩
theorem all_get {α : Type} {p : α → Bool} {L : List α} (d : α) (h : ∀ j, j < L.length → p (L.getD j d) = true) : L.all p = true := by
  rw [List.all_eq_true]
  intro x hx
  obtain ⟨j, hj, rfl⟩ := List.mem_iff_getElem.1 hx
  have := h j hj
  rwa [List.getD_eq_getElem?_getD, List.getElem?_eq_getElem hj] at this
theorem all_not {α : Type} {p : α → Bool} {L : List α} (d : α) {j : Nat} (hj : j < L.length) (h : p (L.getD j d) = false) : L.all p = false := by
  cases hb : L.all p with
  | false => rfl
  | true =>
    have := List.all_eq_true.1 hb _ (List.getElem_mem hj)
    rw [List.getD_eq_getElem?_getD, List.getElem?_eq_getElem hj] at h
    simp only [Option.getD_some] at h
    rw [this] at h; cases h
theorem ext_get {α : Type} {a b : List α} (d : α) (hl : a.length = b.length) (h : ∀ j, j < a.length → a.getD j d = b.getD j d) : a = b := by
  apply List.ext_getElem hl
  intro j h1 h2
  have := h j h1
  rwa [List.getD_eq_getElem?_getD, List.getD_eq_getElem?_getD, List.getElem?_eq_getElem h1, List.getElem?_eq_getElem h2] at this
theorem mkSl {a : Int} {k : Prop} (h1 : 0 ≤ a) (h2 : a ≤ 268435456) (h : k) : a = a ∧ 0 ≤ a ∧ a ≤ 268435456 ∧ k := ⟨rfl, h1, h2, h⟩
theorem ixC {rows : List (List AV)} {row : List AV} {i : Int} {k : List AV → Prop} (h0 : 0 ≤ i) (h : rows[i.toNat]? = some row) (hk : k row) : 0 ≤ i ∧ ∃ row, rows[i.toNat]? = some row ∧ k row := ⟨h0, row, h, hk⟩
theorem ixK {rows : List (List AV)} {row : List AV} {n : Nat} {k : List AV → Prop} (h : rows[n]? = some row) (hk : k row) : 0 ≤ (n : Int) ∧ ∃ row, rows[((n : Int)).toNat]? = some row ∧ k row := ⟨by omega, row, by rw [Int.toNat_natCast]; exact h, hk⟩
theorem ioK {rows : List (List AV)} {n : Nat} {k : Prop} (h : n < rows.length) (hk : k) : 0 ≤ (n : Int) ∧ (n : Int) < rows.length ∧ k := ⟨by omega, by omega, hk⟩
theorem rwC {rows : List (List AV)} {row : List AV} {i : Nat} {k : List AV → Prop} (h : rows[i]? = some row) (hk : k row) : ∃ row, rows[i]? = some row ∧ k row := ⟨row, h, hk⟩
theorem ioN {rows : List (List AV)} {i : Int} {k : Prop} (h0 : 0 ≤ i) (h : i < rows.length) (hk : k) : 0 ≤ i ∧ i < rows.length ∧ k := ⟨h0, h, hk⟩
theorem ints_len (l : List Int) : (ints l).length = l.length := List.length_map ..
end Go.AM
end
section
namespace Go.AM
open Go
structure Sq (E : Env) (all : List Oper) (rid : Nat) (l : List Oper) (i : Nat) (st : St) (k : St → Prop) : Prop where
  h : vcSeq E all rid l i st k
structure Dr (E : Env) (all : List Oper) (rid : Nat) (l : List Oper) (i : Nat) (st : St) (k : St → List Foot → Prop) : Prop where
  h : vcOps E all rid l i st k
structure Vc (E : Env) (c : Code) (st : St) (Q : Ex → St → Prop) : Prop where
  h : vc E c st Q
section
variable {E : Env}
theorem Sq_eq {all : List Oper} {rid : Nat} {l : List Oper} {i : Nat} {st : St} {k : St → Prop} : Sq E all rid l i st k = vcSeq E all rid l i st k := propext ⟨fun h => h.h, fun h => ⟨h⟩⟩
theorem Dr_eq {all : List Oper} {rid : Nat} {l : List Oper} {i : Nat} {st : St} {k : St → List Foot → Prop} : Dr E all rid l i st k = vcOps E all rid l i st k := propext ⟨fun h => h.h, fun h => ⟨h⟩⟩
theorem Vc_eq {c : Code} {st : St} {Q : Ex → St → Prop} : Vc E c st Q = vc E c st Q := propext ⟨fun h => h.h, fun h => ⟨h⟩⟩
theorem Sq.nil {all : List Oper} {rid i : Nat} {st : St} {k : St → Prop} (h : k st) : Sq E all rid [] i st k := ⟨h⟩
def sqStep (E : Env) (all : List Oper) (rid : Nat) (o : Oper) (r : List Oper) (i : Nat) (st : St) (k : St → Prop) : Prop :=
  match o.guard with
  | none => stepK E ((rid + 1) * 1000 + i) st o fun st' _ => Sq E all rid r (i + 1) st' k
  | some (j, want) => match guardD all j with
    | some d => match lk st.t d with
      | some (.one (.prim (.bool b))) => match want with
        | true => ifB b (setK st (some d) (.one (.prim (.bool true))) fun st => stepK E ((rid + 1) * 1000 + i) st o fun st' _ => Sq E all rid r (i + 1) st' k)
            (setK st (some d) (.one (.prim (.bool false))) fun st => setK st o.dst (.tup []) fun st => Sq E all rid r (i + 1) st k)
        | false => ifB b (setK st (some d) (.one (.prim (.bool true))) fun st => setK st o.dst (.tup []) fun st => Sq E all rid r (i + 1) st k)
            (setK st (some d) (.one (.prim (.bool false))) fun st => stepK E ((rid + 1) * 1000 + i) st o fun st' _ => Sq E all rid r (i + 1) st' k)
      | some (.tup []) => setK st o.dst (.tup []) fun st => Sq E all rid r (i + 1) st k
      | _ => False
    | none => False
theorem Sq.cons {all : List Oper} {rid i : Nat} {o : Oper} {r : List Oper} {st : St} {k : St → Prop} (h : sqStep E all rid o r i st k) : Sq E all rid (o :: r) i st k := by
  rw [Sq_eq]
  unfold sqStep at h
  simp only [Sq_eq] at h
  exact h
def drStep (E : Env) (all : List Oper) (rid : Nat) (o : Oper) (r : List Oper) (i : Nat) (st : St) (k : St → List Foot → Prop) : Prop :=
  let run (st : St) (g : List Nat) : Prop := stepK E ((rid + 1) * 1000 + i) st o fun st' pk => footK i o g st pk fun ft => Dr E all rid r (i + 1) st' fun st'' fs => k st'' (ft :: fs)
  match o.guard with
  | none => run st []
  | some (j, want) => match guardD all j with
    | some d => match lk st.t d with
      | some (.one (.prim (.bool b))) =>
        let skip (st : St) : Prop := setK st o.dst (.tup []) fun st => Dr E all rid r (i + 1) st fun st'' fs => k st'' (⟨i, o.dst, [d], [], [], [], [], [], []⟩ :: fs)
        match want with
        | true => ifB b (setK st (some d) (.one (.prim (.bool true))) fun st => run st [d]) (setK st (some d) (.one (.prim (.bool false))) skip)
        | false => ifB b (setK st (some d) (.one (.prim (.bool true))) skip) (setK st (some d) (.one (.prim (.bool false))) fun st => run st [d])
      | some (.tup []) => setK st o.dst (.tup []) fun st => Dr E all rid r (i + 1) st fun st'' fs => k st'' (⟨i, o.dst, [d], [], [], [], [], [], []⟩ :: fs)
      | _ => False
    | none => False
theorem Dr.nil {all : List Oper} {rid i : Nat} {st : St} {k : St → List Foot → Prop} (h : k st []) : Dr E all rid [] i st k := ⟨h⟩
theorem Dr.cons {all : List Oper} {rid i : Nat} {o : Oper} {r : List Oper} {st : St} {k : St → List Foot → Prop} (h : drStep E all rid o r i st k) : Dr E all rid (o :: r) i st k := by
  rw [Dr_eq]
  unfold drStep at h
  simp only [Dr_eq] at h
  exact h
theorem drawIf {b : Bool} {p : Prop} (hb : b = true) (h : p) : ifB b p False := by subst hb; exact h
theorem Vc.skip {st : St} {Q : Ex → St → Prop} (h : Q .normal st) : Vc E .skip st Q := ⟨h⟩
theorem Vc.exit {id : Nat} {st : St} {Q : Ex → St → Prop} (h : Q (.exit id) st) : Vc E (.exit id) st Q := ⟨h⟩
theorem Vc.ret {st : St} {Q : Ex → St → Prop} (h : Q .ret st) : Vc E .ret st Q := ⟨h⟩
def seqQ (E : Env) (b : Code) (Q : Ex → St → Prop) (e : Ex) (st : St) : Prop := match e with
  | .normal => Vc E b st Q
  | .exit id => Q (.exit id) st
  | .ret => Q .ret st
theorem Vc.seq {a b : Code} {st : St} {Q : Ex → St → Prop} (h : Vc E a st (seqQ E b Q)) : Vc E (.seq a b) st Q := by
  refine ⟨?_⟩
  have h := h.h
  have e : (seqQ E b Q) = fun e st' => match e with
    | .normal => vc E b st' Q
    | .exit id => Q (.exit id) st'
    | .ret => Q .ret st' := by
    funext e st'
    cases e <;> simp only [seqQ, Vc_eq]
  rw [e] at h
  exact h
def blockQ (id : Nat) (Q : Ex → St → Prop) (e : Ex) (st : St) : Prop := match e with
  | .normal => Q .normal st
  | .exit id' => match Nat.beq id' id with
    | true => Q .normal st
    | false => Q (.exit id') st
  | .ret => Q .ret st
theorem Vc.block {id : Nat} {c : Code} {st : St} {Q : Ex → St → Prop} (h : frzK E (1000000 + id) st fun st => Vc E c st (blockQ id Q)) : Vc E (.block id c) st Q := by
  refine ⟨?_⟩
  simp only [Vc_eq] at h
  have e : blockQ id Q = fun e st' => match e with
    | .normal => Q .normal st'
    | .exit id' => match Nat.beq id' id with
      | true => Q .normal st'
      | false => Q (.exit id') st'
    | .ret => Q .ret st' := by
    funext e st'
    cases e <;> rfl
  rw [e] at h
  exact h
def condK (E : Env) (x y : Code) (Q : Ex → St → Prop) (st : St) (c : Operand) : Prop := getX E st 0 c fun _ v => match v with
  | .one (.prim (.bool b)) => ifB b (Vc E x st Q) (Vc E y st Q)
  | _ => False
theorem Vc.cond {c : Operand} {x y : Code} {st : St} {Q : Ex → St → Prop} (h : condK E x y Q st c) : Vc E (.cond c x y) st Q := by
  refine ⟨?_⟩
  unfold condK at h
  simp only [Vc_eq] at h
  exact h
theorem Vc.region {rid : Nat} {ops : Array Oper} {l : List Oper} {st : St} {Q : Ex → St → Prop} (hl : ops.toList = l) (h : frzK E rid st fun st => Sq E l rid l 0 st fun st' => Q .normal st') : Vc E (.region rid ops false) st Q := by
  refine ⟨?_⟩
  subst hl
  simp only [Sq_eq] at h
  exact h
theorem Vc.draw {rid : Nat} {ops : Array Oper} {l : List Oper} {st : St} {Q : Ex → St → Prop} (hl : ops.toList = l) (he : edgesOk 0 l = true) (h : frzK E rid st fun st => Dr E l rid l 0 st fun st' fs => ifB (drawOk l fs) (Q .normal st') False) : Vc E (.region rid ops true) st Q := by
  refine ⟨?_⟩
  subst hl
  simp only [Dr_eq] at h
  have e : (fun st' fs => ifB (drawOk ops.toList fs) (Q .normal st') False) = fun st' fs => match edgesOk 0 ops.toList && drawOk ops.toList fs with
      | true => Q .normal st'
      | false => False := by
    funext st' fs
    rw [he, Bool.true_and]
    rfl
  rw [e] at h
  exact h
def loopQ (α : Type) (upd : α → St → St) (μ : α → Nat) (st : St) (a : α) (Q : Ex → St → Prop) (e : Ex) (st' : St) : Prop := match e with
  | .normal => ∃ a', μ a' < μ a ∧ weak st' (upd a' st)
  | .exit id => Q (.exit id) st'
  | .ret => Q .ret st'
theorem Vc.loop {c : Code} {st : St} {Q : Ex → St → Prop} (α : Type) (upd : α → St → St) (μ : α → Nat) (a0 : α) (h1 : weak st (upd a0 st)) (h2 : ∀ a, fSt (upd a st) fun s => Vc E c s (loopQ α upd μ st a Q)) : Vc E (.loop c) st Q := by
  refine ⟨α, fun a => upd a st, μ, a0, h1, fun a => ?_⟩
  have h := h2 a
  rw [fSt_eq] at h
  have h := h.h
  have e : loopQ α upd μ st a Q = fun e st' => match e with
      | .normal => ∃ a', μ a' < μ a ∧ weak st' (upd a' st)
      | .exit id => Q (.exit id) st'
      | .ret => Q .ret st' := by
    funext e st'
    cases e <;> rfl
  rw [e] at h
  exact h
def loopQ1 {α : Type} (P : α → Prop) (upd : α → St → St) (μ : α → Nat) (st : St) (m : Nat) (Q : Ex → St → Prop) (e : Ex) (st' : St) : Prop := match e with
  | .normal => ∃ a', P a' ∧ μ a' < m ∧ weak st' (upd a' st)
  | .exit id => Q (.exit id) st'
  | .ret => Q .ret st'
theorem Vc.loop1 {c : Code} {st : St} {Q : Ex → St → Prop} {α : Type} (P : α → Prop) (upd : α → St → St) (μ : α → Nat) (a0 : α) (h0 : P a0) (h1 : weak st (upd a0 st)) (h2 : ∀ a, P a → fSt (upd a st) fun s => Vc E c s (loopQ1 P upd μ st (μ a) Q)) : Vc E (.loop c) st Q := by
  refine Vc.loop { a : α // P a } (fun a => upd a.1) (fun a => μ a.1) ⟨a0, h0⟩ h1 fun a => ?_
  have h := h2 a.1 a.2
  rw [fSt_eq] at h ⊢
  have e : loopQ1 P upd μ st (μ a.1) Q = loopQ { a : α // P a } (fun a => upd a.1) (fun a => μ a.1) st a Q := by
    funext e st'
    cases e with
    | normal => exact propext ⟨fun ⟨a', p, q, r⟩ => ⟨⟨a', p⟩, q, r⟩, fun ⟨⟨a', p⟩, q, r⟩ => ⟨a', p, q, r⟩⟩
    | exit id => rfl
    | ret => rfl
  rw [← e]; exact h
def loopQ2 {α β : Type} (P : α → β → Prop) (upd : α → β → St → St) (μ : α → β → Nat) (st : St) (m : Nat) (Q : Ex → St → Prop) (e : Ex) (st' : St) : Prop := match e with
  | .normal => ∃ a' b', P a' b' ∧ μ a' b' < m ∧ weak st' (upd a' b' st)
  | .exit id => Q (.exit id) st'
  | .ret => Q .ret st'
theorem Vc.loop2 {c : Code} {st : St} {Q : Ex → St → Prop} {α β : Type} (P : α → β → Prop) (upd : α → β → St → St) (μ : α → β → Nat) (a0 : α) (b0 : β) (h0 : P a0 b0) (h1 : weak st (upd a0 b0 st)) (h2 : ∀ a b, P a b → fSt (upd a b st) fun s => Vc E c s (loopQ2 P upd μ st (μ a b) Q)) : Vc E (.loop c) st Q := by
  refine Vc.loop1 (α := α × β) (fun a => P a.1 a.2) (fun a => upd a.1 a.2) (fun a => μ a.1 a.2) (a0, b0) h0 h1 fun a ha => ?_
  have h := h2 a.1 a.2 ha
  rw [fSt_eq] at h ⊢
  have e : loopQ2 P upd μ st (μ a.1 a.2) Q = loopQ1 (α := α × β) (fun a => P a.1 a.2) (fun a => upd a.1 a.2) (fun a => μ a.1 a.2) st (μ a.1 a.2) Q := by
    funext e st'
    cases e with
    | normal => exact propext ⟨fun ⟨a', b', q⟩ => ⟨(a', b'), q⟩, fun ⟨a', q⟩ => ⟨a'.1, a'.2, q⟩⟩
    | exit id => rfl
    | ret => rfl
  rw [← e]; exact h
def loopQ3 {α β γ : Type} (P : α → β → γ → Prop) (upd : α → β → γ → St → St) (μ : α → β → γ → Nat) (st : St) (m : Nat) (Q : Ex → St → Prop) (e : Ex) (st' : St) : Prop := match e with
  | .normal => ∃ a' b' c', P a' b' c' ∧ μ a' b' c' < m ∧ weak st' (upd a' b' c' st)
  | .exit id => Q (.exit id) st'
  | .ret => Q .ret st'
theorem Vc.loop3 {c : Code} {st : St} {Q : Ex → St → Prop} {α β γ : Type} (P : α → β → γ → Prop) (upd : α → β → γ → St → St) (μ : α → β → γ → Nat) (a0 : α) (b0 : β) (c0 : γ) (h0 : P a0 b0 c0) (h1 : weak st (upd a0 b0 c0 st))
    (h2 : ∀ a b d, P a b d → fSt (upd a b d st) fun s => Vc E c s (loopQ3 P upd μ st (μ a b d) Q)) : Vc E (.loop c) st Q := by
  refine Vc.loop1 (α := α × β × γ) (fun a => P a.1 a.2.1 a.2.2) (fun a => upd a.1 a.2.1 a.2.2) (fun a => μ a.1 a.2.1 a.2.2) (a0, b0, c0) h0 h1 fun a ha => ?_
  have h := h2 a.1 a.2.1 a.2.2 ha
  rw [fSt_eq] at h ⊢
  have e : loopQ3 P upd μ st (μ a.1 a.2.1 a.2.2) Q = loopQ1 (α := α × β × γ) (fun a => P a.1 a.2.1 a.2.2) (fun a => upd a.1 a.2.1 a.2.2) (fun a => μ a.1 a.2.1 a.2.2) st (μ a.1 a.2.1 a.2.2) Q := by
    funext e st'
    cases e with
    | normal => exact propext ⟨fun ⟨a', b', c', q⟩ => ⟨(a', b', c'), q⟩, fun ⟨a', q⟩ => ⟨a'.1, a'.2.1, a'.2.2, q⟩⟩
    | exit id => rfl
    | ret => rfl
  rw [← e]; exact h
def endQ (E : Env) (fn : Func) (ins : List (Nat × Mode × TV)) (K : TV → List TV → Prop) (e : Ex) (st : St) : Prop := match e with
  | .exit _ => False
  | .normal => fin E fn ins st K
  | .ret => fin E fn ins st K
def fnV (E : Env) (fn : Func) (c : Code) (ins : List (Nat × Mode × TV)) (K : TV → List TV → Prop) : Prop :=
  initK ins fun ts os => fNs (namesR ins) fun us => match namesOkR us os with
    | true => Vc E c ⟨ts, os, us⟩ (endQ E fn ins K)
    | false => False
theorem fnV_vc {fn : Func} {c : Code} {ins : List (Nat × Mode × TV)} {K : TV → List TV → Prop} (h : fnV E fn c ins K) : fnVc E fn c ins K := by
  unfold fnV at h
  simp only [Vc_eq] at h
  have e : endQ E fn ins K = fun e st => match e with
      | .exit _ => False
      | .normal => fin E fn ins st K
      | .ret => fin E fn ins st K := by
    funext e st'
    cases e <;> rfl
  rw [e] at h
  exact h
theorem fn_okR (hE : tabB E = true) (hm : E.P.follows .mixedOrders = true) {f : Nat} {fn : Func} {ins : List (Mode × TV)} {outs : List TV} {res : TV} (hf : E.P.funcs[f]? = some fn) (hk : okFn fn ins.length = true)
    (h : bdIns ins → fnV E fn (fn.body.getD .skip) (enumF 0 ins) fun v os => v = res ∧ os = outs) : Sem E.P f ins outs res :=
  fn_okB hE hm hf hk fun hb => fnV_vc (h hb)
theorem callS {α : Type} {p : α → Prop} {q : α → Prop} {Q : α → Prop} (h : ∃ r, Q r ∧ p r) (hk : ∀ r, Q r → q r) : ∃ r, p r ∧ q r := by
  obtain ⟨r, h1, h2⟩ := h
  exact ⟨r, h2, hk r h1⟩
def nextB : Code → Bool
  | .skip => true
  | .exit _ => true
  | .ret => true
  | .seq _ _ => true
  | .block _ _ => true
  | .cond _ _ _ => true
  | .region _ _ false => true
  | _ => false
def vcNext (E : Env) (c : Code) (st : St) (Q : Ex → St → Prop) : Prop := match c with
  | .skip => Q .normal st
  | .exit id => Q (.exit id) st
  | .ret => Q .ret st
  | .seq a b => Vc E a st (seqQ E b Q)
  | .block id c => frzK E (1000000 + id) st fun st => Vc E c st (blockQ id Q)
  | .cond o x y => condK E x y Q st o
  | .region rid ops false => frzK E rid st fun st => Sq E ops.toList rid ops.toList 0 st fun st' => Q .normal st'
  | _ => False
theorem vN {c : Code} {st : St} {Q : Ex → St → Prop} (hc : nextB c = true) (h : vcNext E c st Q) : Vc E c st Q := by
  unfold nextB at hc
  unfold vcNext at h
  split at hc
  · exact Vc.skip h
  · exact Vc.exit h
  · exact Vc.ret h
  · exact Vc.seq h
  · exact Vc.block h
  · exact Vc.cond h
  · exact Vc.region rfl h
  · cases hc
def sqNext (E : Env) (all : List Oper) (rid : Nat) (l : List Oper) (i : Nat) (st : St) (k : St → Prop) : Prop := match l with
  | [] => k st
  | o :: r => sqStep E all rid o r i st k
theorem sN {all : List Oper} {rid i : Nat} {l : List Oper} {st : St} {k : St → Prop} (h : sqNext E all rid l i st k) : Sq E all rid l i st k := by
  cases l with
  | nil => exact Sq.nil h
  | cons o r => exact Sq.cons h
end
end Go.AM
end
section
namespace Go.AM
open Go Go.RowKit Go.ChangeShapes Go.WideShapes Go.ChangeAt
set_option maxRecDepth 100000
set_option linter.unusedVariables false
theorem wf_u8 {n : Int} (h : (Lit.int .u8 n).wf = true) : 0 ≤ n ∧ n ≤ 255 := by
  simpa [Lit.wf, IntKind.min, IntKind.max, IntKind.signed, IntKind.bits] using h
theorem ofNat_u8 {n : Int} (h : 0 ≤ n ∧ n ≤ 255) : ((UInt8.ofNat n.toNat).toNat : Int) = n := by simp; omega
theorem cells_u8 : (P : Program).cellsOf 5 = 1 := by kernel_rfl
theorem bytes_rd {W : World} {S : Nat → Prop} {a : Option Addr} {len cap : Nat} {zs : List Int}
    (h : (a = none ∧ len = 0 ∧ cap = 0 ∧ zs = []) ∨ ∃ x, a = some x ∧ len ≤ cap ∧ zs.length = cap ∧ (∀ i, i < zs.length → W.cell? (x.add i) = some (.int .u8 (zs.getD i 0))) ∧ ∀ n ∈ zs, (Lit.int .u8 n).wf = true)
    (hlen : len ≤ 1125899906842624) (hS : ∀ b, b < W.heap.size → S b) : ∃ bs : List UInt8, Rd P W S (.sl 5 (bytesRows bs)) (.slice a len cap) := by
  rcases h with ⟨rfl, rfl, rfl, rfl⟩ | ⟨x, rfl, hl, hz, hc, hw⟩
  · exact ⟨[], .sl (cells := []) (by decide) rfl (Nat.le_refl _) (by simp [bytesRows]) (by simp [bytesRows]) (fun h => absurd rfl h) (fun b o k x h => by cases h) (fun k av x h => by simp [bytesRows] at h)⟩
  · have hbl : ∀ l : List UInt8, (bytesRows l).length = l.length := fun l => List.length_map ..
    have hlz : (zs.take len).length = len := by rw [List.length_take]; omega
    refine ⟨(zs.take len).map fun n => UInt8.ofNat n.toNat, .sl (cells := (zs.take len).map (Value.int .u8)) ?_ ?_ hl ?_ ?_ (fun hne => ?_) (fun b o k v e hv => ?_) (fun k av v h1 h2 => ?_)⟩
    · rw [hbl, List.length_map, hlz]; exact hlen
    · rw [hbl, List.length_map, hlz]
    · intro row hr
      obtain ⟨b, _, rfl⟩ := List.mem_map.1 hr
      rw [cells_u8]; rfl
    · rw [hbl, cells_u8, List.length_map, List.length_map, Nat.mul_one]
    · have hp : 0 < len := by
        cases len with
        | zero => exact absurd (by simp [bytesRows]) hne
        | succ n => omega
      obtain ⟨b, off, rfl, hcell⟩ := ints_at hc (by omega)
      refine ⟨b, off, rfl, hS b ?_⟩
      have := hcell 0 (by omega)
      by_cases hb : b < W.heap.size
      · exact hb
      · rw [World.cell?, Array.getElem?_eq_none (by simpa using hb)] at this; cases this
    · obtain rfl := Option.some.inj e
      have hk : k < len := by have := (List.getElem?_eq_some_iff.1 hv).1; rw [List.length_map, hlz] at this; exact this
      rw [List.getElem?_map, List.getElem?_take, if_pos hk] at hv
      have hkz : k < zs.length := by omega
      rw [List.getElem?_eq_getElem hkz] at hv
      obtain rfl := Option.some.inj hv
      have := hc k hkz
      rw [List.getD_eq_getElem?_getD, List.getElem?_eq_getElem hkz, Go.WideShapes.add_plain] at this
      exact this
    · rw [bytes_flat, List.map_map, List.getElem?_map] at h1
      rw [List.getElem?_map] at h2
      cases hz' : (zs.take len)[k]? with
      | none => rw [hz'] at h1; cases h1
      | some n =>
        rw [hz'] at h1 h2
        obtain rfl := Option.some.inj h1
        obtain rfl := Option.some.inj h2
        have := ofNat_u8 (wf_u8 (hw n (List.mem_of_mem_take (List.mem_of_getElem? hz'))))
        simp only [Function.comp, this]
        exact .prim rfl
theorem frm_below {w w' : World} (h : Frm w w' [] none) : Below w.heap.size w w' :=
  ⟨h.os, h.tape, h.output, h.size, fun k hk => h.blk k hk (by simp) fun i hi => by cases hi⟩
theorem glob_rows : ((List.range (P : Program).globals.size).all fun g => (((begin P (fun _ _ => 0) default).world.heap[g]?).bind Obj.row?).isSome) = true := by kernel_rfl
theorem glob_lt {W : World} (h : W.ShapedOpen P) {b : Nat} (hb : b < (P : Program).globals.size) : b < W.heap.size := by
  have h1 := List.all_eq_true.1 glob_rows b (List.mem_range.2 hb)
  cases hr : ((begin P (fun _ _ => 0) default).world.heap[b]?).bind Obj.row? with
  | none => rw [hr] at h1; cases h1
  | some zt =>
    obtain ⟨z, t⟩ := zt
    obtain ⟨cs, h2, _⟩ := h.1 b z t hb hr
    exact (Array.getElem?_eq_some_iff.1 h2).1
theorem gok_start {W : World} (h : Facts P W) : GOk P W fun b => b < W.heap.size := ⟨W, h, fun b hb => ⟨glob_lt h.1 hb, rfl⟩⟩
theorem tabIs_reads {W : World} {name : String} {k : IntKind} {zs : List Int} {g : Nat} {t e : TypeId} {n : Nat}
    (hg : (P : Program).globalNamed name = some g) (hty : ((P : Program).globals[g]?).map (·.type) = some t) (ht : (P : Program).underlying t = some (.array n e)) (he : (P : Program).underlying e = some (.int k)) (hce : (P : Program).cellsOf e = 1) (hct : (P : Program).cellsOf t = n) :
    ∀ {l : List (String × DataW Unit)} {ps : List MemPlace}, (name, Lib.tabData k zs) ∈ l → DataW.LaidVars P W l ps → Lib.TabIs P W name k zs
  | [], _, h, _ => by cases h
  | (n', d') :: r, ps, hm, h => by
    obtain ⟨g', t', cs, fuel, p, q, hg', ht', hvar, hd, hrest, _⟩ := h
    rcases List.mem_cons.1 hm with h0 | h0
    · cases h0
      obtain rfl := Option.some.inj (hg.symm.trans hg')
      obtain rfl := Option.some.inj (hty.symm.trans ht')
      unfold Lib.TabIs
      rw [hvar, ← Lib.cells_of_tab ht he hce hct hd]
    · exact tabIs_reads hg hty ht he hce hct h0 hrest
theorem returns_shaped {H : Type} {enc : TypeId × Value → H} {a : Assume} {C : Checked} {os : Os} {f : FuncId} {fn : Func} {s : ChangeSpec} {conds : List PathCond} {apart fresh handsOn again : Bool} {X : World → Array Value → Prop}
    (hX : ∀ (w w' : World) (args : Array Value), w.heap = w'.heap → X w args → X w' args)
    (own : ownKnob C.prog.godebug = none) (started : os.Started) (noInit : C.prog.inits.idxOf? f = none) (hfn : C.prog.funcs[f]? = some fn)
    (witness : ∃ (w : World) (tape : Tape) (i : Input), w.os = os ∧ (w.forCall tape i).Shaped C.prog ∧ i.vars = [] ∧ Input.okWide C.prog (w.forCall tape i) .any w.heap.size f i ∧
      ((s.pre enc C.prog fn conds apart (w.forCall tape i).memory i.args ∧ X (w.forCall tape i).memory i.args) ∧ sizedMet enc C.prog fn (OpenSpec.ofChange s) apart (w.forCall tape i).memory i.args) ∧ a.holds C.prog (lone (Frame.enter C.prog f i.args .normal) [] (w.forCall tape i)))
    (contract : ∀ (W : World) (base : Nat) (args : Array Value) (ds gs : List (DataW H)) (before : List MemPlace),
      (∀ (j : Nat) t v, fn.params[j]? = some t → args[j]? = some v → Value.okWide C.prog W .any base t v) →
      DataW.Whole enc C.prog fn.params.toList s.vars apart W args.toList ds gs before →
      (DataW.weightsEach C.prog (fn.params.toList ++ s.plain.varTypes C.prog) (ds ++ gs)).all (· ≤ reachBytes) = true → X W args → W.ShapedOpen C.prog →
      Calls C.prog f args W fun e W' => ∃ v, e = .returned v ∧ s.post enc C.prog fn apart fresh handsOn again W args v W') :
    ReturnsInHanded a C os f .any (fun w args => (s.pre enc C.prog fn conds apart w args ∧ X w args) ∧ sizedMet enc C.prog fn (OpenSpec.ofChange s) apart w args) (s.post enc C.prog fn apart fresh handsOn again) := by
  refine returnsInHanded_of_calls own started noInit witness ?_
  intro w tape i _ hsh _ hok hpre _
  obtain ⟨_, _, _, fn', hfn', _, _, _, _, hval⟩ := hok
  have e : fn' = fn := Option.some.inj (hfn'.symm.trans hfn)
  subst e
  obtain ⟨⟨⟨ds, gs, before, hw, hc⟩, hx⟩, hz⟩ := hpre
  have hw' := DataW.Whole.of_heap (w' := w.forCall tape i) (by rfl) hw
  refine (contract (w.forCall tape i) w.heap.size i.args ds gs before hval hw' (hz.weights hw) (hX _ _ _ (by rfl) hx) hsh).mono fun e W' ⟨v, he, hp⟩ => ?_
  subst he
  exact ChangeSpec.post_blind hp
theorem slice_bytes {H : Type} {enc : TypeId × Value → H} {W : World} {base : Nat} {t : TypeId} {a : Option Addr} {len cap : Nat} {d : DataW H} {ps : List MemPlace} {ts : List TypeId} {ds : List (DataW H)} {j : Nat}
    (hsz : (DataW.weightsEach P ts ds).all (· ≤ reachBytes) = true) (ht : ts[j]? = some t) (hd : ds[j]? = some d) (hu : (P : Program).underlying t = some (.slice 5)) (he : (P : Program).underlying 5 = some (.int .u8))
    (h : DataW.Trod enc P W base (fun _ => true) true t (.slice a len cap) d ps) : ∃ bs : List UInt8, Rd P W (fun b => b < W.heap.size) (.sl 5 (bytesRows bs)) (.slice a len cap) := by
  obtain ⟨fuel, hf⟩ := h
  have hB : (P : Program).bytesOf 5 = 1 := by kernel_rfl
  rcases open_ints hu he cells_u8 hf with ⟨hcs, _⟩ | ⟨x, l, c, zs, hcs, _, hl, hm, hz, hx, hcell, hwz⟩
  · simp [Value.cells] at hcs
    obtain ⟨rfl, rfl, rfl⟩ := hcs
    exact bytes_rd (zs := []) (.inl ⟨rfl, rfl, rfl, rfl⟩) (by decide) fun b hb => hb
  · simp [Value.cells] at hcs
    obtain ⟨rfl, rfl, rfl⟩ := hcs
    have hlen : len ≤ 1125899906842624 := by
      simp only [Prod.mk.injEq] at hx
      have := sized_slice hsz ht (by rw [hd, hx.1]) hu
      rw [hB] at this
      have h2 := reachBytes_lt
      simp [lits] at this
      simp at hz
      omega
    exact bytes_rd (zs := zs) (.inr ⟨x, rfl, hl, by simpa using hz, hcell, hwz⟩) hlen fun b hb => hb
end Go.AM
end
section
namespace Cc
structure Form where
  C : List Int
  D : List Int
  K : Int
  deriving DecidableEq, Inhabited
structure Line where
  Kind : Int
  Pot : Int
  Skip : Int
  Form : Form
  deriving DecidableEq, Inhabited
structure Rslt where
  Code : Int
  Tells : List Int
  deriving DecidableEq, Inhabited
structure Row where
  Guards : List Form
  Adds : List Form
  Tells : List Form
  Stop : Bool
  deriving DecidableEq, Inhabited
structure Treaty where
  Base : List Int
  Gives : List Int
  deriving DecidableEq, Inhabited
structure Plan where
  Clients : Int
  Acts : List (List Line)
  Gives : List Int
  Start : List Int
  deriving DecidableEq, Inhabited
structure Call where
  Client : Int
  Seq : Int
  Act : Int
  Args : List Int
  deriving DecidableEq, Inhabited
structure Done where
  Seq : Int
  Res : Rslt
  deriving DecidableEq, Inhabited
structure Msg where
  Kind : Int
  To : Int
  From : Int
  Round : Int
  Call : Call
  Vals : List Int
  Seqs : List Int
  Done : List Done
  deriving DecidableEq, Inhabited
structure Site where
  Up : Bool
  Frozen : Bool
  Round : Int
  Base : List Int
  Added : List Int
  Done : List Done
  deriving DecidableEq, Inhabited
structure Got where
  Has : Bool
  Added : List Int
  Seqs : List Int
  deriving DecidableEq, Inhabited
structure Clerk where
  Up : Bool
  Round : Int
  Base : List Int
  Done : List Done
  Wants : List Call
  Got : List Got
  deriving DecidableEq, Inhabited
structure Client where
  Seq : Int
  Busy : Bool
  Call : Call
  Res : Rslt
  deriving DecidableEq, Inhabited
structure LogD where
  Call : Call
  Res : Rslt
  deriving DecidableEq, Inhabited
structure World where
  Plan : Plan
  Sites : List Site
  Clerk : Clerk
  Clients : List Client
  Net : List Msg
  Log : List LogD
  deriving DecidableEq, Inhabited
structure Event where
  Kind : Int
  At : Int
  Act : Int
  Args : List Int
  deriving DecidableEq, Inhabited
def Form.nil : Form := ⟨[], [], 0⟩
def Rslt.nil : Rslt := ⟨0, []⟩
def Call.nil : Call := ⟨0, 0, 0, []⟩
def Done.nil : Done := ⟨0, Rslt.nil⟩
def Plan.nil : Plan := ⟨0, [], [], []⟩
def Site.nil : Site := ⟨false, false, 0, [], [], []⟩
def Got.nil : Got := ⟨false, [], []⟩
def Clerk.nil : Clerk := ⟨false, 0, [], [], [], []⟩
def Client.nil : Client := ⟨0, false, Call.nil, Rslt.nil⟩
def World.nil : World := ⟨Plan.nil, [], Clerk.nil, [], [], []⟩
def Event.nil : Event := ⟨0, 0, 0, []⟩
def inB (n lo hi : Int) : Bool := decide (lo ≤ n) && decide (n ≤ hi)
def within (l : List Int) (many : Nat) (most : Int) : Bool := decide (l.length = many) && l.all fun n => inB n (-most) most
def Form.ok (f : Form) : Bool := within f.C 3 10000000 && within f.D 2 10000000 && inB f.K (-10000000) 10000000
def valOk (v : List Int) : Bool := within v 3 10000
def argOk (a : List Int) : Bool := within a 2 9
def Form.zero : Form := ⟨[0, 0, 0], [0, 0], 0⟩
def Form.pot (v : Nat) : Form := ⟨[0, 0, 0].set v 1, [0, 0], 0⟩
def lin (a b : Form) (n : Int) : Form := ⟨List.zipWith (fun x y => x + n * y) a.C b.C, List.zipWith (fun x y => x + n * y) a.D b.D, a.K + n * b.K⟩
def dot : List Int → List Int → Int
  | a :: r, b :: r' => a * b + dot r r'
  | _, _ => 0
def Form.at (f : Form) (vals args : List Int) : Int := dot f.C vals + dot f.D args + f.K
def into (f : Form) (pots : List Form) : Form := (List.zip f.C pots).foldl (fun x p => lin x p.2 p.1) ⟨[0, 0, 0], f.D, f.K⟩
def Form.small (f : Form) : Bool := within f.C 3 2 && within f.D 2 2 && inB f.K (-20) 20
def Line.ok (l : Line) : Bool :=
  if l.Kind = 1 then inB l.Skip 1 6 && decide (l.Pot = 0) && l.Form.small
  else if l.Kind = 2 then inB l.Pot 0 2 && decide (l.Skip = 0) && l.Form.small
  else if l.Kind = 3 then decide (l.Pot = 0) && decide (l.Skip = 0) && l.Form.small
  else if l.Kind = 4 then decide (l.Pot = 0) && decide (l.Skip = 0) && decide (l.Form = Form.nil)
  else false
def tests (act : List Line) : Nat := act.countP fun l => decide (l.Kind = 1)
def actOk (act : List Line) : Bool := act.all Line.ok && decide (act.length ≤ 6) && decide (tests act ≤ 3)
def goLines (args : List Int) (l : List Line) (own tells : List Int) : Option (List Int × List Int) :=
  match l with
  | [] => some (own, tells)
  | x :: r =>
    if x.Kind = 4 then none
    else if x.Kind = 1 then (if x.Form.at own args < 0 then goLines args (r.drop x.Skip.toNat) own tells else goLines args r own tells)
    else if x.Kind = 2 then goLines args r (own.set x.Pot.toNat (own.getD x.Pot.toNat 0 + x.Form.at own args)) tells
    else goLines args r own (tells ++ [x.Form.at own args])
termination_by l.length
decreasing_by all_goals simp only [List.length_cons, List.length_drop]; omega
def endOf (vals : List Int) : Option (List Int × List Int) → Rslt × List Int
  | none => (⟨2, []⟩, vals)
  | some (own, tells) => if valOk own then (⟨1, tells⟩, own) else (⟨3, []⟩, vals)
def actRun (act : List Line) (vals args : List Int) : Rslt × List Int :=
  if actOk act && valOk vals && argOk args then endOf vals (goLines args act vals []) else (Rslt.nil, [])
def minus (f : Form) : Form := let x := lin Form.zero f (-1); { x with K := x.K - 1 }
def rowEnd (pots guards tells : List Form) : Row := ⟨guards, List.zipWith (fun p v => lin p (Form.pot v) (-1)) pots [0, 1, 2], tells, false⟩
def walk (l : List Line) (pots guards tells : List Form) : List Row :=
  match l with
  | [] => [rowEnd pots guards tells]
  | x :: r =>
    if x.Kind = 4 then [⟨guards, [], [], true⟩]
    else if x.Kind = 1 then walk r pots (guards ++ [into x.Form pots]) tells ++ walk (r.drop x.Skip.toNat) pots (guards ++ [minus (into x.Form pots)]) tells
    else if x.Kind = 2 then walk r (pots.set x.Pot.toNat (lin (pots.getD x.Pot.toNat Form.nil) (into x.Form pots) 1)) guards tells
    else walk r pots guards (tells ++ [into x.Form pots])
termination_by l.length
decreasing_by all_goals simp only [List.length_cons, List.length_drop]; omega
def pots0 : List Form := [Form.pot 0, Form.pot 1, Form.pot 2]
def rowsOf (act : List Line) : List Row := if actOk act then walk act pots0 [] [] else []
def catOk (acts : List (List Line)) : Bool := inB acts.length 1 4 && acts.all actOk
def sign : List Int → Int
  | [] => 0
  | a :: r => if a > 0 then 1 else if a < 0 then -1 else sign r
def part (c : List Int) : List Int := c.map fun x => sign c * x
def zeros (l : List Int) : Bool := l.all fun n => decide (n = 0)
def has (list : List (List Int)) (p : List Int) : Bool := list.any fun q => decide (q = p)
def addPart (out : List (List Int)) (g : Form) : List (List Int) := let p := part g.C; if !zeros p && !has out p then out ++ [p] else out
def guardsOf (acts : List (List Line)) : List Form := acts.flatMap fun act => (rowsOf act).flatMap fun r => r.Guards
def formsOf (acts : List (List Line)) : List Form := acts.flatMap fun act => (rowsOf act).flatMap fun r => r.Adds ++ r.Tells
def partsOf (acts : List (List Line)) : List (List Int) := (guardsOf acts).foldl addPart [[1, 0, 0], [0, 1, 0], [0, 0, 1]]
def reads (l : List Form) (v : Nat) : Bool := l.any fun f => decide (f.C.getD v 0 ≠ 0)
def pinsOf (acts : List (List Line)) : List Bool := [0, 1, 2].map fun v => reads (formsOf acts) v
def givesOk (g : List Int) : Bool := inB g.length 1 3 && g.all fun n => inB n 0 50
def trtOk (t : Treaty) : Bool := valOk t.Base && givesOk t.Gives
def addedOk (a : List Int) : Bool := within a 3 20000
def partsOk (parts : List (List Int)) : Bool := parts.all fun p => within p 3 10000000
def keepsP (parts : List (List Int)) (give : Int) (a : List Int) : Bool := parts.all fun p => inB (dot p a) (-give) give
def trtKeeps (t : Treaty) (parts : List (List Int)) (site : Int) (a : List Int) : Bool :=
  trtOk t && partsOk parts && inB site 0 (t.Gives.length - 1) && addedOk a && keepsP parts (t.Gives.getD site.toNat 0) a
def others (gives : List Int) (site : Int) : Int := gives.sum - (if 0 ≤ site then gives.getD site.toNat 0 else 0)
def plus (a b : List Int) : List Int := List.zipWith (· + ·) a b
def bounds (t : Treaty) (parts : List (List Int)) (site : Int) (a : List Int) (f : Form) (args : List Int) : Int × Int × Bool :=
  if trtOk t && partsOk parts && inB site 0 (t.Gives.length - 1) && addedOk a && f.ok && argOk args then
    let n := f.at (plus t.Base a) args
    if zeros f.C then (n, n, true)
    else if has parts (part f.C) then (n - others t.Gives site, n + others t.Gives site, true)
    else (0, 0, false)
  else (0, 0, false)
def unpinned (pins : List Bool) (a : List Int) : Bool := (List.zip pins a).all fun p => !p.1 || decide (p.2 = 0)
def sure (t : Treaty) (parts : List (List Int)) (site : Int) (a : List Int) (args : List Int) (g : Form) : Bool :=
  let b := bounds t parts site a g args; b.2.2 && decide (0 ≤ b.1)
def rangeOf (t : Treaty) (parts : List (List Int)) (site : Int) (a : List Int) : Int :=
  let b := [0, 1, 2].map fun v => bounds t parts site a (Form.pot v) [0, 0]
  if b.any (fun x => x.2.2 && (decide (x.1 > 10000) || decide (x.2.1 < -10000))) then 2
  else if b.any (fun x => !x.2.2 || decide (x.1 < -10000) || decide (x.2.1 > 10000)) then 0 else 1
def goRow (t : Treaty) (parts : List (List Int)) (pins : List Bool) (site : Int) (a : List Int) (r : Row) (args : List Int) : Rslt × List Int × Bool :=
  if r.Stop then (⟨2, []⟩, a, true)
  else
    let adds := r.Adds.map fun f => f.at t.Base args
    let x := plus a adds
    if !unpinned pins adds || !addedOk x then (Rslt.nil, a, false)
    else if rangeOf t parts site x = 2 then (⟨3, []⟩, a, true)
    else if rangeOf t parts site x = 0 then (Rslt.nil, a, false)
    else if !trtKeeps t parts site x then (Rslt.nil, a, false)
    else (⟨1, r.Tells.map fun f => f.at t.Base args⟩, x, true)
def tryRows (rows : List Row) (parts : List (List Int)) (pins : List Bool) (t : Treaty) (site : Int) (a : List Int) (args : List Int) : Rslt × List Int × Bool :=
  match rows.find? fun r => r.Guards.all (sure t parts site a args) with
  | some r => goRow t parts pins site a r args
  | none => (Rslt.nil, a, false)
def alone (acts : List (List Line)) (t : Treaty) (site : Int) (a : List Int) (k : Int) (args : List Int) : Rslt × List Int × Bool :=
  tryRows (rowsOf (acts.getD k.toNat [])) (partsOf acts) (pinsOf acts) t site a args
def keeps (acts : List (List Line)) (t : Treaty) (site : Int) (a : List Int) : Bool := trtKeeps t (partsOf acts) site a && unpinned (pinsOf acts) a
def Plan.treaty (p : Plan) (base : List Int) : Treaty := ⟨base, p.Gives⟩
def planOk (p : Plan) : Bool := inB p.Clients 1 4 && catOk p.Acts && within p.Start 3 1000 && trtOk (p.treaty p.Start)
def isClient (p : Plan) (n : Int) : Bool := inB n 0 (p.Clients - 1)
def isSite (p : Plan) (n : Int) : Bool := inB n 0 (p.Gives.length - 1)
def callB (p : Plan) (c : Call) : Bool := isClient p c.Client && inB c.Seq 1 300 && inB c.Act 0 (p.Acts.length - 1) && argOk c.Args
def resOk (r : Rslt) : Bool := inB r.Code 1 3 && (decide (r.Code = 1) || r.Tells.isEmpty) && decide (r.Tells.length ≤ 6) && within r.Tells r.Tells.length 999999999999
def Rslt.none (r : Rslt) : Bool := decide (r.Code = 0) && r.Tells.isEmpty
def Call.none (c : Call) : Bool := decide (c.Client = 0) && decide (c.Seq = 0) && decide (c.Act = 0) && c.Args.isEmpty
def Done.ok (d : Done) : Bool := if d.Seq = 0 then d.Res.none else inB d.Seq 1 300 && resOk d.Res
def doneOk (p : Plan) (l : List Done) : Bool := decide ((l.length : Int) = p.Clients) && l.all Done.ok
def seqsOk (p : Plan) (l : List Int) : Bool := decide ((l.length : Int) = p.Clients) && l.all fun n => inB n 0 300
def msgB (p : Plan) (x : Msg) : Bool :=
  inB x.Round 0 200 &&
  if x.Kind = 1 then decide (x.To = -1) && decide (x.From = 0) && decide (x.Round = 0) && callB p x.Call && x.Vals.isEmpty && x.Seqs.isEmpty && x.Done.isEmpty
  else if x.Kind = 2 then isSite p x.To && decide (x.From = 0) && x.Call.none && x.Vals.isEmpty && x.Seqs.isEmpty && x.Done.isEmpty
  else if x.Kind = 3 then decide (x.To = -1) && isSite p x.From && addedOk x.Vals && seqsOk p x.Seqs && x.Call.none && x.Done.isEmpty
  else if x.Kind = 4 then isSite p x.To && decide (x.From = 0) && valOk x.Vals && doneOk p x.Done && x.Call.none && x.Seqs.isEmpty
  else false
def siteB (p : Plan) (s : Site) (at_ : Int) : Bool := inB s.Round 0 200 && valOk s.Base && keeps p.Acts (p.treaty s.Base) at_ s.Added && doneOk p s.Done
def wantMsg (c : Call) : Msg := ⟨1, -1, 0, 0, c, [], [], []⟩
def siteTry (p : Plan) (s : Site) (at_ : Int) (c : Call) : Site × Rslt × List Msg :=
  let last := s.Done.getD c.Client.toNat Done.nil
  if !s.Up || decide (c.Client % p.Gives.length ≠ at_) || decide (c.Seq < last.Seq) || decide (c.Seq > last.Seq + 1) then (s, Rslt.nil, [])
  else if c.Seq = last.Seq then (s, last.Res, [])
  else
    let x := alone p.Acts (p.treaty s.Base) at_ s.Added c.Act c.Args
    if !s.Frozen && x.2.2 then ({ s with Added := x.2.1, Done := s.Done.set c.Client.toNat ⟨c.Seq, x.1⟩ }, x.1, [])
    else (s, Rslt.nil, [wantMsg c])
def giveMsg (s : Site) (at_ : Int) : Msg := ⟨3, -1, at_, s.Round, Call.nil, s.Added, s.Done.map Done.Seq, []⟩
def learn (p : Plan) (at_ : Int) (old new : List Done) : List Done :=
  (List.range old.length).map fun (i : Nat) => let d := new.getD i Done.nil; let o := old.getD i Done.nil
    if o.Seq < d.Seq ∧ (i : Int) % p.Gives.length = at_ then d else o
def siteHear (p : Plan) (s : Site) (at_ : Int) (m : Msg) : Site × List Msg :=
  if !s.Up || decide (m.To ≠ at_) then (s, [])
  else if m.Kind = 2 ∧ m.Round = s.Round then ({ s with Frozen := true }, [giveMsg s at_])
  else if m.Kind = 4 ∧ s.Round < m.Round then ({ s with Round := m.Round, Frozen := false, Base := m.Vals, Added := [0, 0, 0], Done := learn p at_ s.Done m.Done }, [])
  else (s, [])
def Got.none (g : Got) : Bool := !g.Has && g.Added.isEmpty && g.Seqs.isEmpty
def rising : List Call → Bool
  | a :: b :: r => decide (a.Client < b.Client) && rising (b :: r)
  | _ => true
def gotB (p : Plan) (base : List Int) (i : Int) (g : Got) : Bool := g.none || (g.Has && keeps p.Acts (p.treaty base) i g.Added && seqsOk p g.Seqs)
def allI {α : Type} (f : Int → α → Bool) : Nat → List α → Bool
  | _, [] => true
  | i, a :: r => f i a && allI f (i + 1) r
def clerkB (p : Plan) (c : Clerk) : Bool :=
  inB c.Round 0 200 && valOk c.Base && doneOk p c.Done && decide (c.Got.length = p.Gives.length) && allI (gotB p c.Base) 0 c.Got &&
  c.Wants.all (callB p) && rising c.Wants && (c.Up || (c.Wants.isEmpty && c.Got.all fun g => !g.Has))
def readyB (c : Clerk) : Bool := c.Got.all Got.Has
def wantIn : List Call → Call → List Call
  | [], c => [c]
  | x :: r, c => if c.Client < x.Client then c :: x :: r else if x.Client = c.Client then (if c.Seq < x.Seq then x :: r else c :: r) else x :: wantIn r c
def pacts (c : Clerk) : List Msg := (List.range c.Got.length).map fun (i : Nat) => ⟨4, i, 0, c.Round, Call.nil, c.Base, [], c.Done⟩
def freezes (c : Clerk) : List Msg := (List.range c.Got.length).map fun (i : Nat) => ⟨2, i, 0, c.Round, Call.nil, [], [], []⟩
def given (c : Clerk) : List Int := c.Got.foldl (fun v g => if g.Has then plus v g.Added else v) c.Base
def forget (c : Clerk) : Clerk := { c with Wants := [], Got := List.replicate c.Got.length Got.nil }
def foldWants (p : Plan) (got : List Got) : List Call → List Int → List Done → List Int × List Done × List (Call × Rslt)
  | [], vals, done => (vals, done, [])
  | x :: r, vals, done =>
    if x.Seq = ((got.getD (x.Client % p.Gives.length).toNat Got.nil).Seqs.getD x.Client.toNat 0) + 1 then
      let a := actRun (p.Acts.getD x.Act.toNat []) vals x.Args
      let b := foldWants p got r a.2 (done.set x.Client.toNat ⟨x.Seq, a.1⟩)
      (b.1, b.2.1, (x, a.1) :: b.2.2)
    else foldWants p got r vals done
def clerkFold (p : Plan) (c : Clerk) : Clerk × List (Call × Rslt) :=
  if !readyB c || decide (c.Round = 200) || !valOk (given c) then (c, [])
  else
    let b := foldWants p c.Got c.Wants (given c) c.Done
    ({ Up := c.Up, Round := c.Round + 1, Base := b.1, Done := b.2.1, Wants := [], Got := List.replicate c.Got.length Got.nil }, b.2.2)
def clerkHear (p : Plan) (c : Clerk) (m : Msg) : Clerk × List Msg × List (Call × Rslt) :=
  if !c.Up || decide (m.To ≠ -1) then (c, [], [])
  else if m.Kind = 1 then ({ c with Wants := wantIn c.Wants m.Call }, [], [])
  else if m.Round ≠ c.Round ∨ keeps p.Acts (p.treaty c.Base) m.From m.Vals = false then (c, [], [])
  else
    let x := clerkFold p { c with Got := c.Got.set m.From.toNat ⟨true, m.Vals, m.Seqs⟩ }
    (x.1, if x.1.Round = c.Round then [] else pacts x.1, x.2)
def clerkTick (c : Clerk) : List Msg := if c.Up then pacts c ++ (if !c.Wants.isEmpty || c.Got.any Got.Has then freezes c else []) else []
def clerkFall (c : Clerk) (up : Bool) : Clerk := if c.Up = up then c else { forget c with Up := up }
def clientB (p : Plan) (at_ : Int) (x : Client) : Bool :=
  Done.ok ⟨x.Seq, x.Res⟩ && if x.Busy then callB p x.Call && decide (x.Call.Client = at_) && decide (x.Call.Seq = x.Seq + 1) else x.Call.none
def logB (p : Plan) (l : List LogD) : Bool := decide (l.length ≤ 100) && l.all fun x => callB p x.Call && resOk x.Res
def wldOk (w : World) : Bool :=
  planOk w.Plan && decide (w.Sites.length = w.Plan.Gives.length) && decide ((w.Clients.length : Int) = w.Plan.Clients) && decide (w.Net.length ≤ 30) && logB w.Plan w.Log &&
  allI (fun i s => siteB w.Plan s i) 0 w.Sites && allI (clientB w.Plan) 0 w.Clients && w.Net.all (msgB w.Plan) && clerkB w.Plan w.Clerk
def send (net out : List Msg) : List Msg := net ++ out.take (30 - net.length)
def write (log : List LogD) (more : List LogD) : List LogD := log ++ more.take (100 - log.length)
def busy (w : World) : Nat := w.Clients.countP Client.Busy
def doCall (w : World) (at_ act : Int) (args : List Int) : World :=
  if inB at_ 0 (w.Clients.length - 1) then
    let x := w.Clients.getD at_.toNat Client.nil
    let c : Call := ⟨at_, x.Seq + 1, act, args⟩
    if !x.Busy && callB w.Plan c && decide (w.Log.length + 1 + busy w ≤ 100) then { w with Clients := w.Clients.set at_.toNat { x with Busy := true, Call := c } } else w
  else w
def doTry (w : World) (at_ : Int) (deaf : Bool) : World :=
  if inB at_ 0 (w.Clients.length - 1) && (w.Clients.getD at_.toNat Client.nil).Busy then
    let c := (w.Clients.getD at_.toNat Client.nil).Call
    let h := (at_ % w.Plan.Gives.length)
    let s := w.Sites.getD h.toNat Site.nil
    let x := siteTry w.Plan s h c
    { w with
      Sites := w.Sites.set h.toNat x.1
      Net := send w.Net x.2.2
      Log := if (x.1.Done.getD at_.toNat Done.nil).Seq > (s.Done.getD at_.toNat Done.nil).Seq then write w.Log [⟨c, x.2.1⟩] else w.Log
      Clients := if x.2.1.Code ≠ 0 ∧ deaf = false then w.Clients.set at_.toNat ⟨c.Seq, false, Call.nil, x.2.1⟩ else w.Clients }
  else w
def cut (net : List Msg) (at_ : Int) : List Msg := if 0 ≤ at_ then net.eraseIdx at_.toNat else net
def doBring (w : World) (at_ : Int) : World :=
  if inB at_ 0 (w.Net.length - 1) then
    match w.Net[at_.toNat]? with
    | none => w
    | some m =>
      if m.To ≠ -1 then
        let x := siteHear w.Plan (w.Sites.getD m.To.toNat Site.nil) m.To m
        { w with Sites := w.Sites.set m.To.toNat x.1, Net := send (cut w.Net at_) x.2 }
      else
        let x := clerkHear w.Plan w.Clerk m
        { w with Clerk := x.1, Net := send (cut w.Net at_) x.2.1, Log := write w.Log (x.2.2.map fun y => ⟨y.1, y.2⟩) }
  else w
def doLife (w : World) (at_ : Int) (up : Bool) : World :=
  if inB at_ 0 (w.Sites.length - 1) then { w with Sites := w.Sites.set at_.toNat { (w.Sites.getD at_.toNat Site.nil) with Up := up } } else w
def step (w : World) (e : Event) : World :=
  if e.Kind = 1 then doCall w e.At e.Act e.Args
  else if e.Kind = 2 then doTry w e.At false
  else if e.Kind = 3 then doTry w e.At true
  else if e.Kind = 4 then doBring w e.At
  else if e.Kind = 5 then { w with Net := cut w.Net e.At }
  else if e.Kind = 6 then (match (if 0 ≤ e.At then w.Net[e.At.toNat]? else none) with
    | some m => { w with Net := send w.Net [m] }
    | none => w)
  else if e.Kind = 7 then { w with Net := send w.Net (clerkTick w.Clerk) }
  else if e.Kind = 8 then doLife w e.At false
  else if e.Kind = 9 then doLife w e.At true
  else if e.Kind = 10 then { w with Clerk := clerkFall w.Clerk (decide (e.At > 0)) }
  else w
def serGo (p : Plan) : List LogD → List Int → List Rslt × List Int
  | [], vals => ([], vals)
  | x :: r, vals =>
    let a := actRun (p.Acts.getD x.Call.Act.toNat []) vals x.Call.Args
    let b := serGo p r a.2
    (a.1 :: b.1, b.2)
def serRun (p : Plan) (l : List LogD) : List Rslt × List Int := if planOk p && logB p l then serGo p l p.Start else ([], [])
def valsOf (w : World) : List Int := w.Sites.foldl (fun v s => if s.Round = w.Clerk.Round then plus v s.Added else v) w.Clerk.Base
def serSame (w : World) : Bool := wldOk w && decide (serRun w.Plan w.Log = (w.Log.map LogD.Res, valsOf w))
end Cc
end
section
namespace Cc
open Go Go.AM
abbrev fI (l : List Int) : AV := .fr [] 3 (ints l)
abbrev sI (l : List Int) : AV := .sl 3 (ints l)
abbrev AI (l : List Int) : TV := .one (.sl 3 (ints l))
abbrev eF (f : Form) : List AV := [fI f.C, fI f.D, eI f.K]
abbrev aF (f : Form) : List AV := [sI f.C, sI f.D, eI f.K]
abbrev fFs (l : List Form) : AV := .fr [] 129 (l.map eF)
abbrev sFs (l : List Form) : AV := .sl 129 (l.map eF)
abbrev eL (x : Line) : List AV := [eI x.Kind, eI x.Pot, eI x.Skip, fI x.Form.C, fI x.Form.D, eI x.Form.K]
abbrev aL (x : Line) : List AV := [eI x.Kind, eI x.Pot, eI x.Skip, sI x.Form.C, sI x.Form.D, eI x.Form.K]
abbrev fLs (l : List Line) : AV := .fr [] 133 (l.map eL)
abbrev sLs (l : List Line) : AV := .sl 133 (l.map eL)
abbrev eA (l : List Line) : List AV := [fLs l]
abbrev fAs (l : List (List Line)) : AV := .fr [] 40 (l.map eA)
abbrev sAs (l : List (List Line)) : AV := .sl 40 (l.map eA)
abbrev eR (r : Rslt) : List AV := [eI r.Code, fI r.Tells]
abbrev aR (r : Rslt) : List AV := [eI r.Code, sI r.Tells]
abbrev fRs (l : List Rslt) : AV := .fr [] 37 (l.map eR)
abbrev sRs (l : List Rslt) : AV := .sl 37 (l.map eR)
abbrev eW (r : Row) : List AV := [fFs r.Guards, fFs r.Adds, fFs r.Tells, eB r.Stop]
abbrev aW (r : Row) : List AV := [sFs r.Guards, sFs r.Adds, sFs r.Tells, eB r.Stop]
abbrev sWs (l : List Row) : AV := .sl 289 (l.map eW)
abbrev eP (l : List Int) : List AV := [fI l]
abbrev fPs (l : List (List Int)) : AV := .fr [] 24 (l.map eP)
abbrev sPs (l : List (List Int)) : AV := .sl 24 (l.map eP)
abbrev fBs (l : List Bool) : AV := .fr [] 4 (l.map fun b => [eB b])
abbrev sBs (l : List Bool) : AV := .sl 4 (l.map fun b => [eB b])
abbrev aT (t : Treaty) : List AV := [sI t.Base, sI t.Gives]
abbrev aPl (p : Plan) : List AV := [eI p.Clients, sAs p.Acts, sI p.Gives, sI p.Start]
abbrev ePl (p : Plan) : List AV := [eI p.Clients, fAs p.Acts, fI p.Gives, fI p.Start]
abbrev eC (c : Call) : List AV := [eI c.Client, eI c.Seq, eI c.Act, fI c.Args]
abbrev aC (c : Call) : List AV := [eI c.Client, eI c.Seq, eI c.Act, sI c.Args]
abbrev fCs (l : List Call) : AV := .fr [] 42 (l.map eC)
abbrev sCs (l : List Call) : AV := .sl 42 (l.map eC)
abbrev eD (d : Done) : List AV := [eI d.Seq, eI d.Res.Code, fI d.Res.Tells]
abbrev aD (d : Done) : List AV := [eI d.Seq, eI d.Res.Code, sI d.Res.Tells]
abbrev fDs (l : List Done) : AV := .fr [] 113 (l.map eD)
abbrev sDs (l : List Done) : AV := .sl 113 (l.map eD)
abbrev eM (m : Msg) : List AV := [eI m.Kind, eI m.To, eI m.From, eI m.Round, eI m.Call.Client, eI m.Call.Seq, eI m.Call.Act, fI m.Call.Args, fI m.Vals, fI m.Seqs, fDs m.Done]
abbrev aM (m : Msg) : List AV := [eI m.Kind, eI m.To, eI m.From, eI m.Round, eI m.Call.Client, eI m.Call.Seq, eI m.Call.Act, sI m.Call.Args, sI m.Vals, sI m.Seqs, sDs m.Done]
abbrev fMs (l : List Msg) : AV := .fr [] 90 (l.map eM)
abbrev sMs (l : List Msg) : AV := .sl 90 (l.map eM)
abbrev eS (s : Site) : List AV := [eB s.Up, eB s.Frozen, eI s.Round, fI s.Base, fI s.Added, fDs s.Done]
abbrev aS (s : Site) : List AV := [eB s.Up, eB s.Frozen, eI s.Round, sI s.Base, sI s.Added, sDs s.Done]
abbrev fSs (l : List Site) : AV := .fr [] 95 (l.map eS)
abbrev sSs (l : List Site) : AV := .sl 95 (l.map eS)
abbrev eG (g : Got) : List AV := [eB g.Has, fI g.Added, fI g.Seqs]
abbrev aG (g : Got) : List AV := [eB g.Has, sI g.Added, sI g.Seqs]
abbrev fGs (l : List Got) : AV := .fr [] 188 (l.map eG)
abbrev sGs (l : List Got) : AV := .sl 188 (l.map eG)
abbrev aK (c : Clerk) : List AV := [eB c.Up, eI c.Round, sI c.Base, sDs c.Done, sCs c.Wants, sGs c.Got]
abbrev eK (c : Clerk) : List AV := [eB c.Up, eI c.Round, fI c.Base, fDs c.Done, fCs c.Wants, fGs c.Got]
abbrev eX (x : Client) : List AV := [eI x.Seq, eB x.Busy, eI x.Call.Client, eI x.Call.Seq, eI x.Call.Act, fI x.Call.Args, eI x.Res.Code, fI x.Res.Tells]
abbrev aX (x : Client) : List AV := [eI x.Seq, eB x.Busy, eI x.Call.Client, eI x.Call.Seq, eI x.Call.Act, sI x.Call.Args, eI x.Res.Code, sI x.Res.Tells]
abbrev fXs (l : List Client) : AV := .fr [] 147 (l.map eX)
abbrev sXs (l : List Client) : AV := .sl 147 (l.map eX)
abbrev eO (x : LogD) : List AV := [eI x.Call.Client, eI x.Call.Seq, eI x.Call.Act, fI x.Call.Args, eI x.Res.Code, fI x.Res.Tells]
abbrev aO (x : LogD) : List AV := [eI x.Call.Client, eI x.Call.Seq, eI x.Call.Act, sI x.Call.Args, eI x.Res.Code, sI x.Res.Tells]
abbrev fOs (l : List LogD) : AV := .fr [] 44 (l.map eO)
abbrev sOs (l : List LogD) : AV := .sl 44 (l.map eO)
abbrev aWd (w : World) : List AV := [eI w.Plan.Clients, sAs w.Plan.Acts, sI w.Plan.Gives, sI w.Plan.Start, sSs w.Sites, eB w.Clerk.Up, eI w.Clerk.Round, sI w.Clerk.Base, sDs w.Clerk.Done, sCs w.Clerk.Wants, sGs w.Clerk.Got, sXs w.Clients, sMs w.Net, sOs w.Log]
abbrev eWd (w : World) : List AV := [eI w.Plan.Clients, fAs w.Plan.Acts, fI w.Plan.Gives, fI w.Plan.Start, fSs w.Sites, eB w.Clerk.Up, eI w.Clerk.Round, fI w.Clerk.Base, fDs w.Clerk.Done, fCs w.Clerk.Wants, fGs w.Clerk.Got, fXs w.Clients, fMs w.Net, fOs w.Log]
end Cc
end
section
namespace Cc.Xe
open Go Go.AM Cc
abbrev eF (f : Form) : List AV := [fI f.C, fI f.D, eI f.K]
abbrev aF (f : Form) : List AV := [sI f.C, sI f.D, eI f.K]
abbrev fFs (l : List Form) : AV := .fr [] 371 (l.map eF)
abbrev sFs (l : List Form) : AV := .sl 371 (l.map eF)
abbrev eL (x : Line) : List AV := [eI x.Kind, eI x.Pot, eI x.Skip, fI x.Form.C, fI x.Form.D, eI x.Form.K]
abbrev aL (x : Line) : List AV := [eI x.Kind, eI x.Pot, eI x.Skip, sI x.Form.C, sI x.Form.D, eI x.Form.K]
abbrev fLs (l : List Line) : AV := .fr [] 373 (l.map eL)
abbrev sLs (l : List Line) : AV := .sl 373 (l.map eL)
abbrev eA (l : List Line) : List AV := [fLs l]
abbrev fAs (l : List (List Line)) : AV := .fr [] 322 (l.map eA)
abbrev sAs (l : List (List Line)) : AV := .sl 322 (l.map eA)
abbrev eR (r : Rslt) : List AV := [eI r.Code, fI r.Tells]
abbrev aR (r : Rslt) : List AV := [eI r.Code, sI r.Tells]
abbrev fRs (l : List Rslt) : AV := .fr [] 248 (l.map eR)
abbrev sRs (l : List Rslt) : AV := .sl 248 (l.map eR)
abbrev aT (t : Treaty) : List AV := [sI t.Base, sI t.Gives]
abbrev aPl (p : Plan) : List AV := [eI p.Clients, sAs p.Acts, sI p.Gives, sI p.Start]
abbrev ePl (p : Plan) : List AV := [eI p.Clients, fAs p.Acts, fI p.Gives, fI p.Start]
abbrev eC (c : Call) : List AV := [eI c.Client, eI c.Seq, eI c.Act, fI c.Args]
abbrev aC (c : Call) : List AV := [eI c.Client, eI c.Seq, eI c.Act, sI c.Args]
abbrev fCs (l : List Call) : AV := .fr [] 247 (l.map eC)
abbrev sCs (l : List Call) : AV := .sl 247 (l.map eC)
abbrev eD (d : Done) : List AV := [eI d.Seq, eI d.Res.Code, fI d.Res.Tells]
abbrev aD (d : Done) : List AV := [eI d.Seq, eI d.Res.Code, sI d.Res.Tells]
abbrev fDs (l : List Done) : AV := .fr [] 325 (l.map eD)
abbrev sDs (l : List Done) : AV := .sl 325 (l.map eD)
abbrev eM (m : Msg) : List AV := [eI m.Kind, eI m.To, eI m.From, eI m.Round, eI m.Call.Client, eI m.Call.Seq, eI m.Call.Act, fI m.Call.Args, fI m.Vals, fI m.Seqs, fDs m.Done]
abbrev aM (m : Msg) : List AV := [eI m.Kind, eI m.To, eI m.From, eI m.Round, eI m.Call.Client, eI m.Call.Seq, eI m.Call.Act, sI m.Call.Args, sI m.Vals, sI m.Seqs, sDs m.Done]
abbrev fMs (l : List Msg) : AV := .fr [] 253 (l.map eM)
abbrev sMs (l : List Msg) : AV := .sl 253 (l.map eM)
abbrev eS (s : Site) : List AV := [eB s.Up, eB s.Frozen, eI s.Round, fI s.Base, fI s.Added, fDs s.Done]
abbrev aS (s : Site) : List AV := [eB s.Up, eB s.Frozen, eI s.Round, sI s.Base, sI s.Added, sDs s.Done]
abbrev fSs (l : List Site) : AV := .fr [] 242 (l.map eS)
abbrev sSs (l : List Site) : AV := .sl 242 (l.map eS)
abbrev eG (g : Got) : List AV := [eB g.Has, fI g.Added, fI g.Seqs]
abbrev aG (g : Got) : List AV := [eB g.Has, sI g.Added, sI g.Seqs]
abbrev fGs (l : List Got) : AV := .fr [] 328 (l.map eG)
abbrev sGs (l : List Got) : AV := .sl 328 (l.map eG)
abbrev aK (c : Clerk) : List AV := [eB c.Up, eI c.Round, sI c.Base, sDs c.Done, sCs c.Wants, sGs c.Got]
abbrev eK (c : Clerk) : List AV := [eB c.Up, eI c.Round, fI c.Base, fDs c.Done, fCs c.Wants, fGs c.Got]
abbrev eX (x : Client) : List AV := [eI x.Seq, eB x.Busy, eI x.Call.Client, eI x.Call.Seq, eI x.Call.Act, fI x.Call.Args, eI x.Res.Code, fI x.Res.Tells]
abbrev aX (x : Client) : List AV := [eI x.Seq, eB x.Busy, eI x.Call.Client, eI x.Call.Seq, eI x.Call.Act, sI x.Call.Args, eI x.Res.Code, sI x.Res.Tells]
abbrev fXs (l : List Client) : AV := .fr [] 250 (l.map eX)
abbrev sXs (l : List Client) : AV := .sl 250 (l.map eX)
abbrev eO (x : LogD) : List AV := [eI x.Call.Client, eI x.Call.Seq, eI x.Call.Act, fI x.Call.Args, eI x.Res.Code, fI x.Res.Tells]
abbrev aO (x : LogD) : List AV := [eI x.Call.Client, eI x.Call.Seq, eI x.Call.Act, sI x.Call.Args, eI x.Res.Code, sI x.Res.Tells]
abbrev fOs (l : List LogD) : AV := .fr [] 256 (l.map eO)
abbrev sOs (l : List LogD) : AV := .sl 256 (l.map eO)
abbrev aWd (w : World) : List AV := [eI w.Plan.Clients, sAs w.Plan.Acts, sI w.Plan.Gives, sI w.Plan.Start, sSs w.Sites, eB w.Clerk.Up, eI w.Clerk.Round, sI w.Clerk.Base, sDs w.Clerk.Done, sCs w.Clerk.Wants, sGs w.Clerk.Got, sXs w.Clients, sMs w.Net, sOs w.Log]
abbrev eWd (w : World) : List AV := [eI w.Plan.Clients, fAs w.Plan.Acts, fI w.Plan.Gives, fI w.Plan.Start, fSs w.Sites, eB w.Clerk.Up, eI w.Clerk.Round, fI w.Clerk.Base, fDs w.Clerk.Done, fCs w.Clerk.Wants, fGs w.Clerk.Got, fXs w.Clients, fMs w.Net, fOs w.Log]
end Cc.Xe
end
section
namespace Go.AM
open Go Go.RowKit Go.ChangeShapes Go.WideShapes Go.ChangeAt
set_option maxRecDepth 100000
set_option linter.unusedVariables false
section
variable {H : Type} {enc : TypeId × Value → H} {W : World}
abbrev Bk (W : World) : Nat → Prop := fun b => b < W.heap.size
theorem rds_app {a b : List AV} {c d : List Value} (h : Rds P W (Bk W) a c) (h' : Rds P W (Bk W) b d) : Rds P W (Bk W) (a ++ b) (c ++ d) := by
  refine ⟨by rw [List.length_append, List.length_append, h.1, h'.1], fun k av x h1 h2 => ?_⟩
  by_cases hk : k < a.length
  · rw [List.getElem?_append_left hk] at h1
    rw [List.getElem?_append_left (by rw [h.1]; exact hk)] at h2
    exact h.2 k av x h1 h2
  · rw [List.getElem?_append_right (by omega)] at h1
    rw [List.getElem?_append_right (by rw [h.1]; omega), h.1] at h2
    exact h'.2 _ av x h1 h2
theorem rds_one {av : AV} {x : Value} (h : Rd P W (Bk W) av x) : Rds P W (Bk W) [av] [x] := by
  refine ⟨rfl, fun k a y h1 h2 => ?_⟩
  cases k with
  | zero => cases h1; cases h2; exact h
  | succ k => simp at h1
def Decs (enc : TypeId × Value → H) (W : World) {α : Type} (t : TypeId) (e : α → List AV) : Prop :=
  ∀ (fuel : Nat) (cs : List Value) (x : DataW H × List MemPlace), DataW.trod enc P W 0 (fun _ => true) true fuel t cs = some x → (∀ n ∈ x.1.weights P t, n ≤ reachBytes) → ∃ v : α, Rds P W (Bk W) (e v) cs
theorem Decs.map {α β : Type} {t : TypeId} {e : α → List AV} {e' : β → List AV} (h : Decs enc W t e) (g : α → β) (he : ∀ v, e v = e' (g v)) : Decs enc W t e' := by
  intro fuel cs x hx hw
  obtain ⟨v, hv⟩ := h fuel cs x hx hw
  exact ⟨g v, he v ▸ hv⟩
theorem decs_int {t : TypeId} (ht : (P : Program).underlying t = some (.int .i64)) : Decs enc W t (fun n : Int => [AV.prim (.int .i64 n)]) := by
  intro fuel cs x hx _
  cases fuel with
  | zero => simp [DataW.trod] at hx
  | succ n =>
    unfold DataW.trod at hx
    rw [ht] at hx
    split at hx <;> simp_all
    obtain ⟨⟨rfl, _⟩, _⟩ := hx
    exact ⟨_, rds_one (.prim rfl)⟩
theorem decs_bool {t : TypeId} (ht : (P : Program).underlying t = some .bool) : Decs enc W t (fun b : Bool => [AV.prim (.bool b)]) := by
  intro fuel cs x hx _
  cases fuel with
  | zero => simp [DataW.trod] at hx
  | succ n =>
    unfold DataW.trod at hx
    rw [ht] at hx
    split at hx
    · exact ⟨_, rds_one (.prim rfl)⟩
    all_goals simp_all
theorem pick_list {α : Type} {Q : Nat → α → Prop} : ∀ {n : Nat}, (∀ i, i < n → ∃ v, Q i v) → ∃ l : List α, l.length = n ∧ ∀ i v, l[i]? = some v → Q i v
  | 0, _ => ⟨[], rfl, fun i v h => by simp at h⟩
  | n + 1, h => by
    obtain ⟨l, h1, h2⟩ := pick_list (fun i hi => h i (Nat.lt_succ_of_lt hi))
    obtain ⟨v, hv⟩ := h n (Nat.lt_succ_self n)
    refine ⟨l ++ [v], by simp [h1], fun i u hu => ?_⟩
    by_cases hi : i < l.length
    · rw [List.getElem?_append_left hi] at hu; exact h2 i u hu
    · rw [List.getElem?_append_right (by omega)] at hu
      have : i - l.length = 0 := by
        cases hk : i - l.length with
        | zero => rfl
        | succ k => rw [hk] at hu; simp at hu
      rw [this] at hu
      cases hu
      rw [show i = n by omega]; exact hv
theorem flat_ix {α : Type} {m : Nat} (hm : 0 < m) : ∀ {rows : List (List α)} {k : Nat} {x : α}, (∀ r ∈ rows, r.length = m) → rows.flatten[k]? = some x → ∃ row, rows[k / m]? = some row ∧ row[k % m]? = some x
  | [], k, x, _, h => by simp at h
  | r :: rows, k, x, hw, h => by
    have hr := hw r (List.mem_cons_self ..)
    rw [List.flatten_cons] at h
    by_cases hk : k < m
    · rw [List.getElem?_append_left (by omega)] at h
      exact ⟨r, by rw [Nat.div_eq_of_lt hk]; rfl, by rw [Nat.mod_eq_of_lt hk]; exact h⟩
    · rw [List.getElem?_append_right (by omega), hr] at h
      obtain ⟨row, h1, h2⟩ := flat_ix hm (fun s hs => hw s (List.mem_cons_of_mem _ hs)) h
      refine ⟨row, ?_, ?_⟩
      · rw [Nat.div_eq_sub_div hm (by omega), List.getElem?_cons_succ]; exact h1
      · rw [Nat.mod_eq_sub_mod (by omega)]; exact h2
theorem weights_all {t : TypeId} {n : Nat} : ∀ {l : List (DataW H)} {d : DataW H}, d ∈ l → n ∈ d.weights P t → n ∈ DataW.weightsAll P t l
  | a :: r, d, h, hn => by
    rw [DataW.weightsAll]
    rcases List.mem_cons.1 h with rfl | h
    · exact List.mem_append_left _ hn
    · exact List.mem_append_right _ (weights_all h hn)
theorem flat_lenN {α : Type} {m : Nat} : ∀ {rows : List (List α)}, (∀ r ∈ rows, r.length = m) → rows.flatten.length = rows.length * m
  | [], _ => by simp
  | r :: rows, h => by
    rw [List.flatten_cons, List.length_append, flat_lenN (fun s hs => h s (List.mem_cons_of_mem _ hs)), h r (List.mem_cons_self ..), List.length_cons, Nat.succ_mul, Nat.add_comm]
theorem decs_list {α : Type} {t te : TypeId} {e : α → List AV} {c : Nat} (ht : (P : Program).underlying t = some (.slice te)) (hc : (P : Program).cellsOf te = c) (hc0 : 0 < c) (hby : 0 < (P : Program).bytesOf te)
    (he : ∀ v, (e v).length = c) (h : Decs enc W te e) : ∀ (fuel : Nat) (cs : List Value) (x : DataW H × List MemPlace), DataW.trod enc P W 0 (fun _ => true) true fuel t cs = some x → (∀ n ∈ x.1.weights P t, n ≤ reachBytes) →
      ∃ (l : List α) (v : Value), cs = [v] ∧ Rd P W (Bk W) (.sl te (l.map e)) v := by
  intro fuel cs x hx hw
  rcases DataW.trod_slice ht hx with ⟨rfl, _⟩ | ⟨a, len, cap, elems, rest, n, _, rfl, rfl, _, hl, _, hlen, hel, _, _⟩
  · exact ⟨[], _, rfl, .sl (cells := []) (by simp) rfl (Nat.le_refl _) (by simp) (by simp) (fun h => absurd rfl h) (fun b o k x h => by cases h) (fun k av x h => by simp at h)⟩
  · simp only [DataW.weights, ht] at hw
    have hsz := hw _ (List.mem_cons_self ..)
    rw [List.length_map, List.length_map] at hsz
    have h47 := reachBytes_lt
    have hl50 : len ≤ 1125899906842624 := by
      have : elems.length + rest.length ≤ (elems.length + rest.length) * P.bytesOf te := Nat.le_mul_of_pos_right _ hby
      omega
    have each : ∀ i, i < len → ∃ p : α × List Value, W.cells? 0 (a.add (i * c)) c = some p.2 ∧ Rds P W (Bk W) (e p.1) p.2 := by
      intro i hi
      have := hel i hi
      rw [hc] at this
      have hie : i < elems.length := by omega
      rw [List.getElem?_eq_getElem hie, Option.bind_eq_some_iff] at this
      obtain ⟨cs', h1, h2⟩ := this
      obtain ⟨v, hv⟩ := h n cs' _ h2 (fun m hm => hw m (List.mem_cons_of_mem _ (List.mem_append_left _ (weights_all (List.mem_map_of_mem (List.getElem_mem hie)) hm))))
      exact ⟨(v, cs'), h1, hv⟩
    obtain ⟨l, hl1, hl2⟩ := pick_list each
    have hrow : ∀ r ∈ (l.map (·.1)).map e, r.length = c := by
      intro r hr
      obtain ⟨v, _, rfl⟩ := List.mem_map.1 hr
      exact he v
    have hcell : ∀ r ∈ l.map (·.2), r.length = c := by
      intro r hr
      obtain ⟨p, hp, rfl⟩ := List.mem_map.1 hr
      obtain ⟨i, hi, rfl⟩ := List.getElem_of_mem hp
      have := (hl2 i _ (List.getElem?_eq_getElem hi)).1
      exact (World.cells?_some this).2.1
    refine ⟨l.map (·.1), _, rfl, .sl (cells := (l.map (·.2)).flatten) ?_ ?_ hl ?_ ?_ (fun hne => ?_) (fun b o k v e' hv => ?_) (fun k av v h1 h2 => ?_)⟩
    · rw [List.length_map, List.length_map, hl1]; exact hl50
    · rw [List.length_map, List.length_map, hl1]
    · rw [hc]; exact hrow
    · rw [flat_lenN hcell, hc]; simp
    · have hp : 0 < l.length := by
        cases l with
        | nil => exact absurd rfl hne
        | cons a r => simp
      have h0 := (hl2 0 _ (List.getElem?_eq_getElem hp)).1
      have h1 := (World.cells?_some h0).2.2 0 hc0
      have hlt := World.cells?_block h0 hc0
      have hlen0 := (World.cells?_some h0).2.1
      rw [List.getElem?_eq_getElem (by omega)] at h1
      obtain ⟨b, off, spot⟩ := a
      have hspot : spot = none := by simpa [Addr.add] using World.cell?_spot h1
      subst hspot
      exact ⟨b, off, rfl, by simpa [Addr.add] using hlt⟩
    · obtain rfl := Option.some.inj e'
      obtain ⟨row, h1, h2⟩ := flat_ix hc0 hcell hv
      rw [List.getElem?_map, Option.map_eq_some_iff] at h1
      obtain ⟨p, hp, rfl⟩ := h1
      have h3 := (World.cells?_some (hl2 _ p hp).1).2.2 (k % c) (Nat.mod_lt _ hc0)
      rw [h2, Go.WideShapes.add_plain, Go.WideShapes.add_plain] at h3
      rw [← h3]
      congr 2
      have := Nat.div_add_mod k c
      rw [Nat.mul_comm] at this
      omega
    · obtain ⟨row, h3, h4⟩ := flat_ix hc0 hcell h2
      obtain ⟨rw', h5, h6⟩ := flat_ix hc0 hrow h1
      rw [List.getElem?_map, Option.map_eq_some_iff] at h3
      obtain ⟨p, hp, rfl⟩ := h3
      rw [List.map_map, List.getElem?_map, hp] at h5
      cases h5
      exact (hl2 _ p hp).2.2 _ av v h6 h4
theorem decs_sl {α : Type} {t te : TypeId} {e : α → List AV} {c : Nat} (ht : (P : Program).underlying t = some (.slice te)) (hc : (P : Program).cellsOf te = c) (hc0 : 0 < c) (hby : 0 < (P : Program).bytesOf te)
    (he : ∀ v, (e v).length = c) (h : Decs enc W te e) : Decs enc W t (fun l : List α => [AV.sl te (l.map e)]) := by
  intro fuel cs x hx hw
  obtain ⟨l, v, rfl, hr⟩ := decs_list ht hc hc0 hby he h fuel cs x hx hw
  exact ⟨l, rds_one hr⟩
theorem decs_fr {α : Type} {t te : TypeId} {e : α → List AV} {c : Nat} (ht : (P : Program).underlying t = some (.slice te)) (hc : (P : Program).cellsOf te = c) (hc0 : 0 < c) (hby : 0 < (P : Program).bytesOf te)
    (he : ∀ v, (e v).length = c) (h : Decs enc W te e) : Decs enc W t (fun l : List α => [AV.fr [] te (l.map e)]) := by
  intro fuel cs x hx hw
  obtain ⟨l, v, rfl, hr⟩ := decs_list ht hc hc0 hby he h fuel cs x hx hw
  exact ⟨l, rds_one (.fr hr)⟩
def Parts (enc : TypeId × Value → H) (W : World) {α : Type} (l : List (TypeId × Nat)) (e : α → List AV) : Prop :=
  ∀ (n : Nat) (cs : List Value) (xs : List (DataW H × List MemPlace)), cs.length = (l.map (·.2)).sum → xs.length = l.length →
    (∀ (i : Nat) (p : TypeId × Nat), l[i]? = some p → DataW.trod enc P W 0 (fun _ => true) true n p.1 ((cs.drop ((l.take i).map (·.2)).sum).take p.2) = xs[i]?) →
    (∀ m ∈ DataW.weightsEach P (l.map (·.1)) (xs.map (·.1)), m ≤ reachBytes) → ∃ v : α, Rds P W (Bk W) (e v) cs
theorem parts_nil : Parts enc W [] (fun _ : Unit => []) := by
  intro n cs xs h _ _ _
  have : cs = [] := List.eq_nil_of_length_eq_zero h
  subst this
  exact ⟨(), rfl, fun k av x h => by simp at h⟩
theorem parts_cons {α β : Type} {t : TypeId} {k : Nat} {l : List (TypeId × Nat)} {e : α → List AV} {e' : β → List AV} (h : Decs enc W t e) (h' : Parts enc W l e') : Parts enc W ((t, k) :: l) (fun p : α × β => e p.1 ++ e' p.2) := by
  intro n cs xs hl hx ht hw
  cases xs with
  | nil => simp at hx
  | cons y ys =>
    rw [List.map_cons, List.map_cons, DataW.weightsEach] at hw
    rw [List.map_cons, List.sum_cons] at hl
    have h0 := ht 0 (t, k) rfl
    simp only [List.take_zero, List.map_nil, List.sum_nil, List.drop_zero, List.getElem?_cons_zero] at h0
    obtain ⟨u, hu⟩ := h n _ _ h0 (fun m hm => hw m (List.mem_append_left _ hm))
    obtain ⟨v, hv⟩ := h' n (cs.drop k) ys (by rw [List.length_drop]; simp only at hl; omega) (by simpa using hx) (fun i p hp => by
      have := ht (i + 1) p (by rw [List.getElem?_cons_succ]; exact hp)
      rw [List.take_succ_cons, List.map_cons, List.sum_cons, List.getElem?_cons_succ] at this
      rw [← this, List.drop_drop]) (fun m hm => hw m (List.mem_append_right _ hm))
    exact ⟨(u, v), by have := rds_app hu hv; rwa [List.take_append_drop] at this⟩
theorem decs_struct {α : Type} {t : TypeId} {fs : Array Field} {l : List (TypeId × Nat)} {e : α → List AV} (ht : (P : Program).underlying t = some (.struct fs)) (hl : fs.toList.map (fun f => (f.type, (P : Program).cellsOf f.type)) = l)
    (ho : fs.toList.map (·.offset) = (List.range l.length).map fun i => ((l.take i).map (·.2)).sum) (hn : (P : Program).cellsOf t = (l.map (·.2)).sum) (h : Parts enc W l e) : Decs enc W t e := by
  intro fuel cs x hx hw
  obtain ⟨xs, n, _, rfl, hcs, hlen, hf⟩ := DataW.trod_struct ht hx
  have hll : l.length = fs.size := by rw [← hl]; simp
  refine h n cs xs (by rw [hcs, hn]) (by rw [hlen, hll]) (fun i p hp => ?_) (fun m hm => ?_)
  · rw [← hl, List.getElem?_map, Option.map_eq_some_iff] at hp
    obtain ⟨f, hfi, rfl⟩ := hp
    have hi : i < l.length := by
      have := (List.getElem?_eq_some_iff.1 hfi).1
      rw [hll]; simpa using this
    have hoff : f.offset = ((l.take i).map (·.2)).sum := by
      have h1 : (fs.toList.map (·.offset))[i]? = some f.offset := by rw [List.getElem?_map, hfi]; rfl
      rw [ho, List.getElem?_map, List.getElem?_range hi] at h1
      exact (Option.some.inj h1).symm
    have := hf i f (by simpa using hfi)
    rw [hoff] at this
    exact this
  · refine hw m ?_
    simp only [DataW.weights, ht]
    rw [← hl, List.map_map] at hm
    exact hm
end
end Go.AM
end
section
namespace Cc
open Go Go.AM
set_option maxRecDepth 100000
section
variable {H : Type} {enc : TypeId × Value → H} {W : Go.World}
theorem dx_i : Decs enc W 3 (fun n : Int => [eI n]) := decs_int (by kernel_rfl)
theorem dx_b : Decs enc W 4 (fun b : Bool => [eB b]) := decs_bool (by kernel_rfl)
theorem dx_I : Decs enc W 24 (fun l : List Int => [fI l]) := decs_fr (e := rI) (c := 1) (by kernel_rfl) (by kernel_rfl) (by decide) (of_decide_eq_true (by kernel_rfl)) (fun _ => rfl) dx_i
theorem dxs_I : Decs enc W 24 (fun l : List Int => [sI l]) := decs_sl (e := rI) (c := 1) (by kernel_rfl) (by kernel_rfl) (by decide) (of_decide_eq_true (by kernel_rfl)) (fun _ => rfl) dx_i
theorem dx_F : Decs enc W 371 Xe.eF := (decs_struct Go.Proofs.Tryz.underlying371 (l := [(24, 1), (24, 1), (3, 1)]) (by kernel_rfl) (by kernel_rfl) (by kernel_rfl) (parts_cons (k := 1) dx_I (parts_cons (k := 1) dx_I (parts_cons (k := 1) dx_i parts_nil)))).map (fun p => (⟨p.1, p.2.1, p.2.2.1⟩ : Form)) (fun _ => rfl)
theorem dx_L : Decs enc W 373 Xe.eL := (decs_struct Go.Proofs.Tryz.underlying373 (l := [(3, 1), (3, 1), (3, 1), (371, 3)]) (by kernel_rfl) (by kernel_rfl) (by kernel_rfl) (parts_cons (k := 1) dx_i (parts_cons (k := 1) dx_i (parts_cons (k := 1) dx_i (parts_cons (k := 3) dx_F parts_nil))))).map (fun p => (⟨p.1, p.2.1, p.2.2.1, p.2.2.2.1⟩ : Line)) (fun _ => rfl)
theorem dx_Ls : Decs enc W 322 (fun l : List Line => [Xe.fLs l]) := decs_fr (e := Xe.eL) (c := 6) (by kernel_rfl) (by kernel_rfl) (by decide) (of_decide_eq_true (by kernel_rfl)) (fun _ => rfl) dx_L
theorem dxs_As : Decs enc W 63 (fun l : List (List Line) => [Xe.sAs l]) := decs_sl (e := Xe.eA) (c := 1) (by kernel_rfl) (by kernel_rfl) (by decide) (of_decide_eq_true (by kernel_rfl)) (fun _ => rfl) dx_Ls
theorem dx_R : Decs enc W 248 Xe.eR := (decs_struct Go.Proofs.Tryz.underlying248 (l := [(3, 1), (24, 1)]) (by kernel_rfl) (by kernel_rfl) (by kernel_rfl) (parts_cons (k := 1) dx_i (parts_cons (k := 1) dx_I parts_nil))).map (fun p => (⟨p.1, p.2.1⟩ : Rslt)) (fun _ => rfl)
theorem dx_D : Decs enc W 325 Xe.eD := (decs_struct Go.Proofs.Tryz.underlying325 (l := [(3, 1), (248, 2)]) (by kernel_rfl) (by kernel_rfl) (by kernel_rfl) (parts_cons (k := 1) dx_i (parts_cons (k := 2) dx_R parts_nil))).map (fun p => (⟨p.1, p.2.1⟩ : Done)) (fun _ => rfl)
theorem dx_Ds : Decs enc W 67 (fun l : List Done => [Xe.fDs l]) := decs_fr (e := Xe.eD) (c := 3) (by kernel_rfl) (by kernel_rfl) (by decide) (of_decide_eq_true (by kernel_rfl)) (fun _ => rfl) dx_D
theorem dxs_Ds : Decs enc W 67 (fun l : List Done => [Xe.sDs l]) := decs_sl (e := Xe.eD) (c := 3) (by kernel_rfl) (by kernel_rfl) (by decide) (of_decide_eq_true (by kernel_rfl)) (fun _ => rfl) dx_D
theorem dx_S : Decs enc W 242 Xe.eS := (decs_struct Go.Proofs.Tryz.underlying242 (l := [(4, 1), (4, 1), (3, 1), (24, 1), (24, 1), (67, 1)]) (by kernel_rfl) (by kernel_rfl) (by kernel_rfl) (parts_cons (k := 1) dx_b (parts_cons (k := 1) dx_b (parts_cons (k := 1) dx_i (parts_cons (k := 1) dx_I (parts_cons (k := 1) dx_I (parts_cons (k := 1) dx_Ds parts_nil))))))).map (fun p => (⟨p.1, p.2.1, p.2.2.1, p.2.2.2.1, p.2.2.2.2.1, p.2.2.2.2.2.1⟩ : Site)) (fun _ => rfl)
theorem dxs_Ss : Decs enc W 66 (fun l : List Site => [Xe.sSs l]) := decs_sl (e := Xe.eS) (c := 6) (by kernel_rfl) (by kernel_rfl) (by decide) (of_decide_eq_true (by kernel_rfl)) (fun _ => rfl) dx_S
theorem dx_C : Decs enc W 247 Xe.eC := (decs_struct Go.Proofs.Tryz.underlying247 (l := [(3, 1), (3, 1), (3, 1), (24, 1)]) (by kernel_rfl) (by kernel_rfl) (by kernel_rfl) (parts_cons (k := 1) dx_i (parts_cons (k := 1) dx_i (parts_cons (k := 1) dx_i (parts_cons (k := 1) dx_I parts_nil))))).map (fun p => (⟨p.1, p.2.1, p.2.2.1, p.2.2.2.1⟩ : Call)) (fun _ => rfl)
theorem dxs_Cs : Decs enc W 68 (fun l : List Call => [Xe.sCs l]) := decs_sl (e := Xe.eC) (c := 4) (by kernel_rfl) (by kernel_rfl) (by decide) (of_decide_eq_true (by kernel_rfl)) (fun _ => rfl) dx_C
theorem dx_G : Decs enc W 328 Xe.eG := (decs_struct Go.Proofs.Tryz.underlying328 (l := [(4, 1), (24, 1), (24, 1)]) (by kernel_rfl) (by kernel_rfl) (by kernel_rfl) (parts_cons (k := 1) dx_b (parts_cons (k := 1) dx_I (parts_cons (k := 1) dx_I parts_nil)))).map (fun p => (⟨p.1, p.2.1, p.2.2.1⟩ : Got)) (fun _ => rfl)
theorem dxs_Gs : Decs enc W 69 (fun l : List Got => [Xe.sGs l]) := decs_sl (e := Xe.eG) (c := 3) (by kernel_rfl) (by kernel_rfl) (by decide) (of_decide_eq_true (by kernel_rfl)) (fun _ => rfl) dx_G
theorem dx_X : Decs enc W 250 Xe.eX := (decs_struct Go.Proofs.Tryz.underlying250 (l := [(3, 1), (4, 1), (247, 4), (248, 2)]) (by kernel_rfl) (by kernel_rfl) (by kernel_rfl) (parts_cons (k := 1) dx_i (parts_cons (k := 1) dx_b (parts_cons (k := 4) dx_C (parts_cons (k := 2) dx_R parts_nil))))).map (fun p => (⟨p.1, p.2.1, p.2.2.1, p.2.2.2.1⟩ : Client)) (fun _ => rfl)
theorem dxs_Xs : Decs enc W 72 (fun l : List Client => [Xe.sXs l]) := decs_sl (e := Xe.eX) (c := 8) (by kernel_rfl) (by kernel_rfl) (by decide) (of_decide_eq_true (by kernel_rfl)) (fun _ => rfl) dx_X
theorem dx_M : Decs enc W 253 Xe.eM := (decs_struct Go.Proofs.Tryz.underlying253 (l := [(3, 1), (3, 1), (3, 1), (3, 1), (247, 4), (24, 1), (24, 1), (67, 1)]) (by kernel_rfl) (by kernel_rfl) (by kernel_rfl) (parts_cons (k := 1) dx_i (parts_cons (k := 1) dx_i (parts_cons (k := 1) dx_i (parts_cons (k := 1) dx_i (parts_cons (k := 4) dx_C (parts_cons (k := 1) dx_I (parts_cons (k := 1) dx_I (parts_cons (k := 1) dx_Ds parts_nil))))))))).map (fun p => (⟨p.1, p.2.1, p.2.2.1, p.2.2.2.1, p.2.2.2.2.1, p.2.2.2.2.2.1, p.2.2.2.2.2.2.1, p.2.2.2.2.2.2.2.1⟩ : Msg)) (fun _ => rfl)
theorem dxs_Ms : Decs enc W 73 (fun l : List Msg => [Xe.sMs l]) := decs_sl (e := Xe.eM) (c := 11) (by kernel_rfl) (by kernel_rfl) (by decide) (of_decide_eq_true (by kernel_rfl)) (fun _ => rfl) dx_M
theorem dx_O : Decs enc W 256 Xe.eO := (decs_struct Go.Proofs.Tryz.underlying256 (l := [(247, 4), (248, 2)]) (by kernel_rfl) (by kernel_rfl) (by kernel_rfl) (parts_cons (k := 4) dx_C (parts_cons (k := 2) dx_R parts_nil))).map (fun p => (⟨p.1, p.2.1⟩ : LogD)) (fun _ => rfl)
theorem dxs_Os : Decs enc W 74 (fun l : List LogD => [Xe.sOs l]) := decs_sl (e := Xe.eO) (c := 6) (by kernel_rfl) (by kernel_rfl) (by decide) (of_decide_eq_true (by kernel_rfl)) (fun _ => rfl) dx_O
theorem dxs_Pl : Decs enc W 65 Xe.aPl := (decs_struct Go.Proofs.Tryz.underlying65 (l := [(3, 1), (63, 1), (24, 1), (24, 1)]) (by kernel_rfl) (by kernel_rfl) (by kernel_rfl) (parts_cons (k := 1) dx_i (parts_cons (k := 1) dxs_As (parts_cons (k := 1) dxs_I (parts_cons (k := 1) dxs_I parts_nil))))).map (fun p => (⟨p.1, p.2.1, p.2.2.1, p.2.2.2.1⟩ : Plan)) (fun _ => rfl)
theorem dxs_K : Decs enc W 71 Xe.aK := (decs_struct Go.Proofs.Tryz.underlying71 (l := [(4, 1), (3, 1), (24, 1), (67, 1), (68, 1), (69, 1)]) (by kernel_rfl) (by kernel_rfl) (by kernel_rfl) (parts_cons (k := 1) dx_b (parts_cons (k := 1) dx_i (parts_cons (k := 1) dxs_I (parts_cons (k := 1) dxs_Ds (parts_cons (k := 1) dxs_Cs (parts_cons (k := 1) dxs_Gs parts_nil))))))).map (fun p => (⟨p.1, p.2.1, p.2.2.1, p.2.2.2.1, p.2.2.2.2.1, p.2.2.2.2.2.1⟩ : Clerk)) (fun _ => rfl)
theorem dxs_Wd : Decs enc W 76 Xe.aWd := (decs_struct Go.Proofs.Tryz.underlying76 (l := [(65, 4), (66, 1), (71, 6), (72, 1), (73, 1), (74, 1)]) (by kernel_rfl) (by kernel_rfl) (by kernel_rfl) (parts_cons (k := 4) dxs_Pl (parts_cons (k := 1) dxs_Ss (parts_cons (k := 6) dxs_K (parts_cons (k := 1) dxs_Xs (parts_cons (k := 1) dxs_Ms (parts_cons (k := 1) dxs_Os parts_nil))))))).map (fun p => (⟨p.1, p.2.1, p.2.2.1, p.2.2.2.1, p.2.2.2.2.1, p.2.2.2.2.2.1⟩ : World)) (fun _ => rfl)
end
end Cc
end
section
namespace Cc
theorem inB_iff {n lo hi : Int} : inB n lo hi = true ↔ lo ≤ n ∧ n ≤ hi := by simp [inB]
theorem within_iff {l : List Int} {k : Nat} {m : Int} : within l k m = true ↔ l.length = k ∧ ∀ x ∈ l, -m ≤ x ∧ x ≤ m := by
  simp [within, inB_iff, List.all_eq_true]
theorem len3 {α : Type} {l : List α} (h : l.length = 3) : ∃ a b c, l = [a, b, c] := by
  match l, h with
  | [a, b, c], _ => exact ⟨a, b, c, rfl⟩
theorem len2 {α : Type} {l : List α} (h : l.length = 2) : ∃ a b, l = [a, b] := by
  match l, h with
  | [a, b], _ => exact ⟨a, b, rfl⟩
theorem within3 {l : List Int} {m : Int} (h : within l 3 m = true) : ∃ a b c, l = [a, b, c] ∧ (-m ≤ a ∧ a ≤ m) ∧ (-m ≤ b ∧ b ≤ m) ∧ (-m ≤ c ∧ c ≤ m) := by
  obtain ⟨h1, h2⟩ := within_iff.1 h
  obtain ⟨a, b, c, rfl⟩ := len3 h1
  exact ⟨a, b, c, rfl, h2 a (by simp), h2 b (by simp), h2 c (by simp)⟩
theorem within2 {l : List Int} {m : Int} (h : within l 2 m = true) : ∃ a b, l = [a, b] ∧ (-m ≤ a ∧ a ≤ m) ∧ (-m ≤ b ∧ b ≤ m) := by
  obtain ⟨h1, h2⟩ := within_iff.1 h
  obtain ⟨a, b, rfl⟩ := len2 h1
  exact ⟨a, b, rfl, h2 a (by simp), h2 b (by simp)⟩
def Form.sh (f : Form) : Prop := f.C.length = 3 ∧ f.D.length = 2
def Form.bd (f : Form) (m : Int) : Prop := f.sh ∧ (∀ x ∈ f.C, -m ≤ x ∧ x ≤ m) ∧ (∀ x ∈ f.D, -m ≤ x ∧ x ≤ m) ∧ -m ≤ f.K ∧ f.K ≤ m
theorem ok_bd {f : Form} : f.ok = true ↔ f.bd 10000000 := by
  simp only [Form.ok, Bool.and_eq_true, within_iff, inB_iff, Form.bd, Form.sh]
  constructor
  · rintro ⟨⟨⟨h1, h2⟩, h3, h4⟩, h5, h6⟩; exact ⟨⟨h1, h3⟩, h2, h4, h5, h6⟩
  · rintro ⟨⟨h1, h3⟩, h2, h4, h5, h6⟩; exact ⟨⟨⟨h1, h2⟩, h3, h4⟩, h5, h6⟩
theorem bd_mono {f : Form} {m m' : Int} (h : f.bd m) (hm : m ≤ m') : f.bd m' :=
  ⟨h.1, fun x hx => by have := h.2.1 x hx; omega, fun x hx => by have := h.2.2.1 x hx; omega, by have := h.2.2.2.1; omega, by have := h.2.2.2.2; omega⟩
theorem bd_ok {f : Form} {m : Int} (h : f.bd m) (hm : m ≤ 10000000) : f.ok = true := ok_bd.2 (bd_mono h hm)
theorem bdE {f : Form} {m : Int} (h : f.bd m) : ∃ a b c d e k, f = ⟨[a, b, c], [d, e], k⟩ ∧ (-m ≤ a ∧ a ≤ m) ∧ (-m ≤ b ∧ b ≤ m) ∧ (-m ≤ c ∧ c ≤ m) ∧ (-m ≤ d ∧ d ≤ m) ∧ (-m ≤ e ∧ e ≤ m) ∧ -m ≤ k ∧ k ≤ m := by
  obtain ⟨C, D, K⟩ := f
  obtain ⟨⟨h1, h2⟩, h3, h4, h5⟩ := h
  obtain ⟨a, b, c, rfl⟩ := len3 h1
  obtain ⟨d, e, rfl⟩ := len2 h2
  exact ⟨a, b, c, d, e, K, rfl, h3 a (by simp), h3 b (by simp), h3 c (by simp), h4 d (by simp), h4 e (by simp), h5⟩
theorem bdI {a b c d e k m : Int} (h1 : -m ≤ a ∧ a ≤ m) (h2 : -m ≤ b ∧ b ≤ m) (h3 : -m ≤ c ∧ c ≤ m) (h4 : -m ≤ d ∧ d ≤ m) (h5 : -m ≤ e ∧ e ≤ m) (h6 : -m ≤ k ∧ k ≤ m) : Form.bd ⟨[a, b, c], [d, e], k⟩ m := by
  refine ⟨⟨rfl, rfl⟩, ?_, ?_, h6⟩
  · intro x hx; simp at hx; rcases hx with rfl | rfl | rfl <;> assumption
  · intro x hx; simp at hx; rcases hx with rfl | rfl <;> assumption
theorem small_bd {f : Form} (h : f.small = true) : ∃ a b c d e k, f = ⟨[a, b, c], [d, e], k⟩ ∧ (-2 ≤ a ∧ a ≤ 2) ∧ (-2 ≤ b ∧ b ≤ 2) ∧ (-2 ≤ c ∧ c ≤ 2) ∧ (-2 ≤ d ∧ d ≤ 2) ∧ (-2 ≤ e ∧ e ≤ 2) ∧ -20 ≤ k ∧ k ≤ 20 := by
  obtain ⟨C, D, K⟩ := f
  simp only [Form.small, Bool.and_eq_true, inB_iff] at h
  obtain ⟨⟨h1, h2⟩, h3⟩ := h
  obtain ⟨a, b, c, rfl, ha, hb, hc⟩ := within3 h1
  obtain ⟨d, e, rfl, hd, he⟩ := within2 h2
  exact ⟨a, b, c, d, e, K, rfl, ha, hb, hc, hd, he, h3⟩
theorem into_eq {a b c : Int} {D : List Int} {K : Int} {p q r : Form} : into ⟨[a, b, c], D, K⟩ [p, q, r] = lin (lin (lin ⟨[0, 0, 0], D, K⟩ p a) q b) r c := rfl
theorem mul_bd {x y a b : Int} (hx : -a ≤ x ∧ x ≤ a) (hy : -b ≤ y ∧ y ≤ b) : -(a * b) ≤ x * y ∧ x * y ≤ a * b := by
  have ha : 0 ≤ a := by omega
  have hb : 0 ≤ b := by omega
  have h : (x * y).natAbs ≤ (a * b).natAbs := by
    rw [Int.natAbs_mul, Int.natAbs_mul]
    exact Nat.mul_le_mul (by omega) (by omega)
  have h0 : 0 ≤ a * b := Int.mul_nonneg ha hb
  omega
theorem lin_bd {a b : Form} {n m m' k : Int} (ha : a.bd m) (hb : b.bd m') (hn : -k ≤ n ∧ n ≤ k) : (lin a b n).bd (m + k * m') := by
  obtain ⟨a1, a2, a3, a4, a5, a6, rfl, h1, h2, h3, h4, h5, h6⟩ := bdE ha
  obtain ⟨b1, b2, b3, b4, b5, b6, rfl, g1, g2, g3, g4, g5, g6⟩ := bdE hb
  have k1 := mul_bd hn g1
  have k2 := mul_bd hn g2
  have k3 := mul_bd hn g3
  have k4 := mul_bd hn g4
  have k5 := mul_bd hn g5
  have k6 := mul_bd hn g6
  show Form.bd ⟨[a1 + n * b1, a2 + n * b2, a3 + n * b3], [a4 + n * b4, a5 + n * b5], a6 + n * b6⟩ _
  exact bdI (by omega) (by omega) (by omega) (by omega) (by omega) (by omega)
theorem into_bd {f p q r : Form} {m : Int} (hf : f.small = true) (hp : p.bd m) (hq : q.bd m) (hr : r.bd m) : (into f [p, q, r]).bd (6 * m + 20) := by
  obtain ⟨a, b, c, d, e, k, rfl, ha, hb, hc, hd, he, hk⟩ := small_bd hf
  rw [into_eq]
  have h0 : Form.bd ⟨[0, 0, 0], [d, e], k⟩ 20 := bdI (by omega) (by omega) (by omega) (by omega) (by omega) (by omega)
  exact bd_mono (lin_bd (lin_bd (lin_bd h0 hp (k := 2) ha) hq (k := 2) hb) hr (k := 2) hc) (by omega)
theorem minus_bd {f : Form} {m : Int} (hf : f.bd m) : (minus f).bd (m + 1) := by
  obtain ⟨a, b, c, d, e, k, rfl, ha, hb, hc, hd, he, hk⟩ := bdE hf
  show Form.bd ⟨[0 + -1 * a, 0 + -1 * b, 0 + -1 * c], [0 + -1 * d, 0 + -1 * e], 0 + -1 * k - 1⟩ _
  exact bdI (by omega) (by omega) (by omega) (by omega) (by omega) (by omega)
theorem pot_bd (v : Nat) : (Form.pot v).bd 1 := by
  match v with
  | 0 => exact bdI (by omega) (by omega) (by omega) (by omega) (by omega) (by omega)
  | 1 => exact bdI (by omega) (by omega) (by omega) (by omega) (by omega) (by omega)
  | 2 => exact bdI (by omega) (by omega) (by omega) (by omega) (by omega) (by omega)
  | n + 3 => exact bdI (by omega) (by omega) (by omega) (by omega) (by omega) (by omega)
theorem line_small {x : Line} (h : x.ok = true) (h4 : x.Kind ≠ 4) : x.Form.small = true := by
  unfold Line.ok at h
  split at h
  · simp only [Bool.and_eq_true] at h; exact h.2
  · split at h
    · simp only [Bool.and_eq_true] at h; exact h.2
    · split at h
      · simp only [Bool.and_eq_true] at h; exact h.2
      · simp [h4] at h
theorem line_pot {x : Line} (h : x.ok = true) (h2 : x.Kind = 2) : 0 ≤ x.Pot ∧ x.Pot ≤ 2 := by
  unfold Line.ok at h
  simp [h2, inB_iff] at h; omega
theorem line_skip {x : Line} (h : x.ok = true) (h2 : x.Kind = 1) : 1 ≤ x.Skip ∧ x.Skip ≤ 6 := by
  unfold Line.ok at h
  simp [h2, inB_iff] at h; omega
theorem line_kind {x : Line} (h : x.ok = true) : x.Kind = 1 ∨ x.Kind = 2 ∨ x.Kind = 3 ∨ x.Kind = 4 := by
  unfold Line.ok at h
  by_cases h1 : x.Kind = 1 <;> by_cases h2 : x.Kind = 2 <;> by_cases h3 : x.Kind = 3 <;> by_cases h4 : x.Kind = 4 <;> simp_all
def Row.bd (r : Row) (m : Int) : Prop := (∀ f ∈ r.Guards, f.bd m) ∧ (∀ f ∈ r.Adds, f.bd m) ∧ (∀ f ∈ r.Tells, f.bd m) ∧ (if r.Stop then r.Adds = [] ∧ r.Tells = [] else r.Adds.length = 3)
def pw (n : Nat) : Int := 7 ^ n
theorem pw_pos (n : Nat) : 1 ≤ pw n := by
  induction n with
  | zero => simp [pw]
  | succ n ih => simp only [pw, Int.pow_succ] at *; omega
theorem pw_mono {n k : Nat} (h : n ≤ k) : pw n ≤ pw k := by
  induction h with
  | refl => omega
  | step h ih => rename_i m; have := pw_pos m; simp only [pw, Int.pow_succ] at *; omega
theorem pw_succ (n : Nat) : pw (n + 1) = 7 * pw n := by simp only [pw, Int.pow_succ]; omega
theorem walk_bd : ∀ (n : Nat) (l : List Line), l.length ≤ n → ∀ (p q r : Form) (guards tells : List Form) (m : Int), 0 ≤ m → (m + 4) * pw l.length ≤ 588245 → (∀ x ∈ l, x.ok = true) →
    p.bd m → q.bd m → r.bd m → (∀ f ∈ guards, f.bd 588246) → (∀ f ∈ tells, f.bd 588246) → ∀ w ∈ walk l [p, q, r] guards tells, w.bd 588246 := by
  intro n
  induction n with
  | zero =>
    intro l hl p q r guards tells m hm0 hm hok hp hq hr hg ht w hw
    cases l with
    | cons _ _ => simp at hl
    | nil =>
      have hm' : m + 4 ≤ 588245 := by simpa [pw] using hm
      unfold walk at hw
      simp only [List.mem_singleton] at hw
      subst hw
      have hk : (-1 : Int) ≤ -1 ∧ (-1 : Int) ≤ 1 := by omega
      refine ⟨hg, ?_, ht, by simp [rowEnd]⟩
      intro f hf
      simp only [rowEnd, List.zipWith_cons_cons, List.zipWith_nil_left, List.mem_cons, List.not_mem_nil, or_false] at hf
      rcases hf with rfl | rfl | rfl
      · exact bd_mono (lin_bd hp (pot_bd 0) hk) (by omega)
      · exact bd_mono (lin_bd hq (pot_bd 1) hk) (by omega)
      · exact bd_mono (lin_bd hr (pot_bd 2) hk) (by omega)
  | succ n ih =>
    intro l hl p q r guards tells m hm0 hm hok hp hq hr hg ht w hw
    cases l with
    | nil => exact ih [] (by simp) p q r guards tells m hm0 hm hok hp hq hr hg ht w hw
    | cons x l =>
      have hx := hok x (by simp)
      have hl' : l.length ≤ n := by simpa using hl
      have hok' : ∀ y ∈ l, y.ok = true := fun y hy => hok y (by simp [hy])
      rw [List.length_cons, pw_succ] at hm
      have hpl := pw_pos l.length
      have hmul : (m + 4) * (7 * pw l.length) = (7 * m + 28) * pw l.length := by
        rw [← Int.mul_assoc, Int.mul_comm (m + 4) 7, Int.mul_add]; rfl
      have hm2 : (7 * m + 28) * pw l.length ≤ 588245 := by omega
      have hm3 : 7 * m + 28 ≤ 588245 := by
        have : (7 * m + 28) * 1 ≤ (7 * m + 28) * pw l.length := Int.mul_le_mul_of_nonneg_left hpl (by omega)
        omega
      have hm4 : (m + 4) * pw l.length ≤ 588245 := by
        have : (m + 4) * pw l.length ≤ (7 * m + 28) * pw l.length := Int.mul_le_mul_of_nonneg_right (by omega) (by omega)
        omega
      unfold walk at hw
      split at hw
      · simp only [List.mem_singleton] at hw
        subst hw
        exact ⟨hg, by simp, by simp, by simp⟩
      · rename_i h4
        have hs := line_small hx h4
        have hf := into_bd hs hp hq hr
        split at hw
        · rename_i h1
          rcases List.mem_append.1 hw with hw | hw
          · refine ih l hl' p q r _ tells m hm0 hm4 hok' hp hq hr ?_ ht w hw
            intro f hf'
            rcases List.mem_append.1 hf' with hf' | hf'
            · exact hg f hf'
            · simp only [List.mem_singleton] at hf'; subst hf'; exact bd_mono hf (by omega)
          · have hlen : (l.drop x.Skip.toNat).length ≤ l.length := by simp
            refine ih (l.drop x.Skip.toNat) (by omega) p q r _ tells m hm0 ?_ (fun y hy => hok' y (List.mem_of_mem_drop hy)) hp hq hr ?_ ht w hw
            · have h1 := pw_mono hlen
              have : (m + 4) * pw (l.drop x.Skip.toNat).length ≤ (m + 4) * pw l.length := Int.mul_le_mul_of_nonneg_left h1 (by omega)
              omega
            · intro f hf'
              rcases List.mem_append.1 hf' with hf' | hf'
              · exact hg f hf'
              · simp only [List.mem_singleton] at hf'; subst hf'; exact bd_mono (minus_bd hf) (by omega)
        · split at hw
          · rename_i h2
            have hpot := line_pot hx h2
            have hk : (-1 : Int) ≤ 1 ∧ (1 : Int) ≤ 1 := by omega
            have hm5 : (7 * m + 20 + 4) * pw l.length ≤ 588245 := by
              have : (7 * m + 20 + 4) * pw l.length ≤ (7 * m + 28) * pw l.length := Int.mul_le_mul_of_nonneg_right (by omega) (by omega)
              omega
            have hp' := bd_mono hp (show m ≤ 7 * m + 20 by omega)
            have hq' := bd_mono hq (show m ≤ 7 * m + 20 by omega)
            have hr' := bd_mono hr (show m ≤ 7 * m + 20 by omega)
            obtain h | h | h : x.Pot.toNat = 0 ∨ x.Pot.toNat = 1 ∨ x.Pot.toNat = 2 := by omega
            · rw [h] at hw
              exact ih l hl' _ q r guards tells (7 * m + 20) (by omega) hm5 hok' (bd_mono (lin_bd hp hf hk) (by omega)) hq' hr' hg ht w hw
            · rw [h] at hw
              exact ih l hl' p _ r guards tells (7 * m + 20) (by omega) hm5 hok' hp' (bd_mono (lin_bd hq hf hk) (by omega)) hr' hg ht w hw
            · rw [h] at hw
              exact ih l hl' p q _ guards tells (7 * m + 20) (by omega) hm5 hok' hp' hq' (bd_mono (lin_bd hr hf hk) (by omega)) hg ht w hw
          · refine ih l hl' p q r guards _ m hm0 hm4 hok' hp hq hr hg ?_ w hw
            intro f hf'
            rcases List.mem_append.1 hf' with hf' | hf'
            · exact ht f hf'
            · simp only [List.mem_singleton] at hf'; subst hf'; exact bd_mono hf (by omega)
theorem actOk_iff {act : List Line} : actOk act = true ↔ (∀ x ∈ act, x.ok = true) ∧ act.length ≤ 6 ∧ tests act ≤ 3 := by
  simp only [actOk, Bool.and_eq_true, decide_eq_true_eq, List.all_eq_true]; exact and_assoc
theorem rowsOf_bd {act : List Line} {r : Row} (hr : r ∈ rowsOf act) : r.bd 588246 := by
  unfold rowsOf at hr
  split at hr
  · rename_i h
    obtain ⟨h1, h2, h3⟩ := actOk_iff.1 h
    refine walk_bd act.length act (Nat.le_refl _) _ _ _ [] [] 1 (by omega) ?_ h1 (pot_bd 0) (pot_bd 1) (pot_bd 2) (by simp) (by simp) r hr
    have := pw_mono h2
    have h6 : pw 6 = 117649 := by decide
    omega
  · simp at hr
end Cc
end
section
namespace Cc
open Go Go.AM
set_option maxRecDepth 100000
set_option maxHeartbeats 4000000
def idxOf {α : Type} (p : α → Bool) : List α → Int
  | [] => -1
  | a :: r => if p a then 0 else if idxOf p r < 0 then -1 else idxOf p r + 1
theorem idx_lo {α : Type} (p : α → Bool) : ∀ l : List α, -1 ≤ idxOf p l
  | [] => by simp [idxOf]
  | a :: r => by have := idx_lo p r; unfold idxOf; split <;> (try split) <;> omega
theorem idx_any {α : Type} (p : α → Bool) : ∀ l : List α, decide (idxOf p l ≥ 0) = l.any p
  | [] => by simp [idxOf]
  | a :: r => by
    have h := idx_any p r
    have := idx_lo p r
    simp only [List.any_cons, ← h]
    have e : idxOf p (a :: r) = if p a then 0 else if idxOf p r < 0 then -1 else idxOf p r + 1 := rfl
    rw [e]
    cases p a
    · by_cases h : idxOf p r < 0
      · simp [h]
      · simp [h]; omega
    · simp
theorem idx_hit {α : Type} {p : α → Bool} : ∀ {l : List α} {i : Nat} (d : α), i < l.length → p (l.getD i d) = true → (∀ j, j < i → p (l.getD j d) = false) → idxOf p l = i
  | [], i, d, h, _, _ => by simp at h
  | a :: r, 0, d, _, hp, _ => by simp at hp; simp [idxOf, hp]
  | a :: r, i + 1, d, h, hp, hj => by
    have h0 := hj 0 (by omega)
    simp only [List.getD_cons_zero] at h0
    have := idx_hit (l := r) (i := i) d (by simpa using h) (by simpa using hp) (fun j hji => by have := hj (j + 1) (by omega); simpa using this)
    simp [idxOf, h0, this]; omega
theorem idx_none {α : Type} {p : α → Bool} : ∀ {l : List α} (d : α), (∀ j, j < l.length → p (l.getD j d) = false) → idxOf p l = -1
  | [], _, _ => rfl
  | a :: r, d, hj => by
    have h0 := hj 0 (by simp)
    simp only [List.getD_cons_zero] at h0
    have := idx_none (l := r) d (fun j hji => by have := hj (j + 1) (by simpa using hji); simpa using this)
    simp [idxOf, h0, this]
theorem impl_in (n lo hi : Int) : Sem P 172 [(.pure, I n), (.pure, I lo), (.pure, I hi)] [] (B (inB n lo hi)) := by
  refine fn_okR (E := E0) E0_tab E0_ord (fn := Go.Proofs.Tryz.f172) (by kernel_rfl) (by kernel_rfl) (fun hb => ?_)
  conv => whnf
  repeat' first | ((first|refine sN ?_|refine Dr.cons ?_|(refine Dr.nil ?_;refine drawIf (by kernel_rfl) ?_)|refine vN rfl ?_|refine Vc.draw rfl (by kernel_rfl) ?_|refine mkSl (by omega) (by omega) ?_);conv=>whnf) | (refine ifB_i (fun _=>?_) (fun _=>?_)<;>conv=>whnf)
  all_goals exact rB (by by_cases h1 : lo ≤ n <;> by_cases h2 : n ≤ hi <;> simp_all [inB] <;> omega)
theorem spec_in (n lo hi : Int) : Sem P 96 [(.pure, I n), (.pure, I lo), (.pure, I hi)] [] (B (inB n lo hi)) := by
  refine fn_okR (E := E0) E0_tab E0_ord (fn := Go.Proofs.Tryz.f96) (by kernel_rfl) (by kernel_rfl) (fun hb => ?_)
  conv => whnf
  repeat' first | ((first|refine sN ?_|refine Dr.cons ?_|(refine Dr.nil ?_;refine drawIf (by kernel_rfl) ?_)|refine vN rfl ?_|refine Vc.draw rfl (by kernel_rfl) ?_|refine mkSl (by omega) (by omega) ?_);conv=>whnf) | (refine ifB_i (fun _=>?_) (fun _=>?_)<;>conv=>whnf)
  all_goals exact rB (by by_cases h1 : lo ≤ n <;> by_cases h2 : n ≤ hi <;> simp_all [inB] <;> omega)
theorem spec_all (l : List Int) (n : Nat) (m : Int) (hm : -9000000000000000000 ≤ m ∧ m ≤ 9000000000000000000) : Sem P 98 [(.pure, AI l), (.pure, I n), (.pure, I m)] [] (B (within l n m)) := by
  refine fn_okR (E := E0) E0_tab E0_ord (fn := Go.Proofs.Tryz.f98) (by kernel_rfl) (by kernel_rfl) (fun hb => ?_)
  have la := ints_len l
  have hb1 : (ints l).length ≤ 1125899906842624 := hb.1.1
  conv => whnf
  (repeat' first | ((first|refine sN ?_|refine Dr.cons ?_|(refine Dr.nil ?_;refine drawIf (by kernel_rfl) ?_)|refine vN rfl ?_|refine Vc.draw rfl (by kernel_rfl) ?_|refine mkSl (by omega) (by omega) ?_);conv=>whnf))
  refine ifB_i (fun h => ?_) (fun h => ?_)
  all_goals conv => whnf
  all_goals (repeat' first | ((first|refine sN ?_|refine Dr.cons ?_|(refine Dr.nil ?_;refine drawIf (by kernel_rfl) ?_)|refine vN rfl ?_|refine Vc.draw rfl (by kernel_rfl) ?_|refine mkSl (by omega) (by omega) ?_);conv=>whnf))
  · exact rB (by have := ne_of_bne h; symm; simp [within]; intro e; omega)
  · have h := eq_of_bne h
    refine Vc.loop { i : Nat // ∀ j, j < i → inB (l.getD j 0) (-m) m = true } (fun i => updL [0, 2] [(7, I i.1)] []) (fun i => l.length - i.1) ⟨0, by simp⟩ ?_ (fun i => ?_)
    · repeat' (first | exact True.intro | ((conv => whnf); first | exact True.intro | refine ⟨by rfl, ?_⟩ | refine ⟨?_, ?_⟩))
    · have hi := i.2
      conv => whnf
      (repeat' first | ((first|refine sN ?_|refine Dr.cons ?_|(refine Dr.nil ?_;refine drawIf (by kernel_rfl) ?_)|refine vN rfl ?_|refine Vc.draw rfl (by kernel_rfl) ?_|refine mkSl (by omega) (by omega) ?_);conv=>whnf))
      refine ifB_d (fun g => ?_) (fun g => ?_)
      all_goals conv => whnf
      · repeat' first | ((first|refine sN ?_|refine Dr.cons ?_|(refine Dr.nil ?_;refine drawIf (by kernel_rfl) ?_)|refine vN rfl ?_|refine Vc.draw rfl (by kernel_rfl) ?_|refine mkSl (by omega) (by omega) ?_);conv=>whnf) | (refine ifB_i (fun _=>?_) (fun _=>?_)<;>conv=>whnf) | ((first | refine ixN (enc := rI) 0 (by omega) ?_ | refine ⟨_, spec_in _ _ _, ?_⟩ | refine w64 (by omega) (by omega) ?_);conv=>whnf)
        · rename_i g'
          rw [Int.zero_sub] at g'
          exact rB (by
            symm; simp only [within, Bool.and_eq_false_iff]
            exact .inr (all_not 0 (j := i.1) (by omega) (by simpa using g')))
        · rename_i g'
          rw [Int.zero_sub] at g'
          refine ⟨⟨i.1 + 1, fun j hj => ?_⟩, ?_, ?_⟩
          · by_cases h : j < i.1
            · exact hi j h
            · obtain rfl : j = i.1 := by omega
              simpa using g'
          · simp only; omega
          · repeat' (first | exact True.intro | ((conv => whnf); first | exact True.intro | refine ⟨by rfl, ?_⟩ | refine ⟨?_, ?_⟩))
      · (repeat' first | ((first|refine sN ?_|refine Dr.cons ?_|(refine Dr.nil ?_;refine drawIf (by kernel_rfl) ?_)|refine vN rfl ?_|refine Vc.draw rfl (by kernel_rfl) ?_|refine mkSl (by omega) (by omega) ?_);conv=>whnf))
        exact rB (by
          symm; simp only [within, Bool.and_eq_true, decide_eq_true_eq]
          exact ⟨by omega, all_get 0 fun j hj => hi j (by omega)⟩)
theorem within_1 (n m : Int) (hm : -9000000000000000000 ≤ m ∧ m ≤ 9000000000000000000) : Sem P 189 [(.pure, I n), (.pure, .one (.fp [] [eI m] 0))] [] (B (!inB n (-m) m)) := by
  refine fn_okR (E := E0) E0_tab E0_ord (fn := Go.Proofs.Tryz.f189) (by kernel_rfl) (by kernel_rfl) (fun hb => ?_)
  conv => whnf
  repeat' first | ((first|refine sN ?_|refine Dr.cons ?_|(refine Dr.nil ?_;refine drawIf (by kernel_rfl) ?_)|refine vN rfl ?_|refine Vc.draw rfl (by kernel_rfl) ?_|refine mkSl (by omega) (by omega) ?_);conv=>whnf) | (refine ifB_i (fun _=>?_) (fun _=>?_)<;>conv=>whnf) | ((first | refine ⟨_, impl_in _ _ _, ?_⟩ | refine w64 (by omega) (by omega) ?_);conv=>whnf)
  exact rB (by rw [Int.zero_sub])
theorem within_any_ix (m : Int) (hm : -9000000000000000000 ≤ m ∧ m ≤ 9000000000000000000) (l : List Int) : Sem P 286 [(.pure, .one (sI l)), (.pure, .one (.fn 189 [.fp [] [eI m] 0]))] [] (I (idxOf (fun (x : Int) => !inB x (-m) m) l)) := by
  refine fn_okR (E := E0) E0_tab E0_ord (fn := Go.Proofs.Tryz.f286) (by kernel_rfl) (by kernel_rfl) (fun hb => ?_)
  have la : (ints l).length = l.length := List.length_map ..
  have hb1 : (ints l).length ≤ 1125899906842624 := hb.1.1
  conv => whnf
  (repeat' first | ((first|refine sN ?_|refine Dr.cons ?_|(refine Dr.nil ?_;refine drawIf (by kernel_rfl) ?_)|refine vN rfl ?_|refine Vc.draw rfl (by kernel_rfl) ?_|refine mkSl (by omega) (by omega) ?_);conv=>whnf))
  refine Vc.loop { i : Nat // ∀ j, j < i → j < l.length → (fun (x : Int) => !inB x (-m) m) (l.getD j default) = false } (fun i => updL [0, 1, 7] [(8, I i.1)] []) (fun i => l.length - i.1) ⟨0, by simp⟩ ?_ (fun i => ?_)
  · repeat' (first | exact True.intro | ((conv => whnf); first | exact True.intro | refine ⟨by rfl, ?_⟩ | refine ⟨?_, ?_⟩))
  · have hi := i.2
    conv => whnf
    (repeat' first | ((first|refine sN ?_|refine Dr.cons ?_|(refine Dr.nil ?_;refine drawIf (by kernel_rfl) ?_)|refine vN rfl ?_|refine Vc.draw rfl (by kernel_rfl) ?_|refine mkSl (by omega) (by omega) ?_);conv=>whnf))
    refine ifB_d (fun g => ?_) (fun g => ?_)
    all_goals conv => whnf
    · repeat' first | ((first|refine sN ?_|refine Dr.cons ?_|(refine Dr.nil ?_;refine drawIf (by kernel_rfl) ?_)|refine vN rfl ?_|refine Vc.draw rfl (by kernel_rfl) ?_|refine mkSl (by omega) (by omega) ?_);conv=>whnf) | (refine ifB_i (fun _=>?_) (fun _=>?_)<;>conv=>whnf) | ((first | refine ixN (enc := rI) default (by omega) ?_ | refine ⟨_, within_1 _ m hm, ?_⟩ | refine w64 (by omega) (by omega) ?_);conv=>whnf)
      · rename_i h
        exact rI' (idx_hit (p := fun (x : Int) => !inB x (-m) m) default (by omega) h fun j hj => hi j hj (by omega)).symm
      · rename_i h
        refine ⟨⟨i.1 + 1, fun j hj hl => ?_⟩, ?_, ?_⟩
        · by_cases hji : j < i.1
          · exact hi j hji hl
          · obtain rfl : j = i.1 := by omega
            exact h
        · simp only; omega
        · repeat' (first | exact True.intro | ((conv => whnf); first | exact True.intro | refine ⟨by rfl, ?_⟩ | refine ⟨?_, ?_⟩))
    · (repeat' first | ((first|refine sN ?_|refine Dr.cons ?_|(refine Dr.nil ?_;refine drawIf (by kernel_rfl) ?_)|refine vN rfl ?_|refine Vc.draw rfl (by kernel_rfl) ?_|refine mkSl (by omega) (by omega) ?_);conv=>whnf))
      exact rI' (idx_none (p := fun (x : Int) => !inB x (-m) m) default fun j hj => hi j (by omega) hj).symm
theorem within_any (m : Int) (hm : -9000000000000000000 ≤ m ∧ m ≤ 9000000000000000000) (l : List Int) : Sem P 188 [(.pure, .one (sI l)), (.pure, .one (.fn 189 [.fp [] [eI m] 0]))] [] (B (l.any fun (x : Int) => !inB x (-m) m)) := by
  refine fn_okR (E := E0) E0_tab E0_ord (fn := Go.Proofs.Tryz.f188) (by kernel_rfl) (by kernel_rfl) (fun hb => ?_)
  conv => whnf
  repeat' first | ((first|refine sN ?_|refine Dr.cons ?_|(refine Dr.nil ?_;refine drawIf (by kernel_rfl) ?_)|refine vN rfl ?_|refine Vc.draw rfl (by kernel_rfl) ?_|refine mkSl (by omega) (by omega) ?_);conv=>whnf) | (refine ifB_i (fun _=>?_) (fun _=>?_)<;>conv=>whnf) | (refine ⟨_, within_any_ix m hm l, ?_⟩;conv=>whnf)
  exact rB (idx_any _ _)
theorem any_all {α : Type} (p : α → Bool) (l : List α) : (!l.any fun x => !p x) = l.all p := by induction l with | nil => rfl | cons a r ih => simp only [List.any_cons, List.all_cons, ← ih]; cases p a <;> simp
theorem impl_within (l : List Int) (n : Nat) (m : Int) (hm : -9000000000000000000 ≤ m ∧ m ≤ 9000000000000000000) : Sem P 85 [(.pure, AI l), (.pure, I n), (.pure, I m)] [] (B (within l n m)) := by
  refine fn_okR (E := E0) E0_tab E0_ord (fn := Go.Proofs.Tryz.f85) (by kernel_rfl) (by kernel_rfl) (fun hb => ?_)
  have la := ints_len l
  conv => whnf
  repeat' first | ((first|refine sN ?_|refine Dr.cons ?_|(refine Dr.nil ?_;refine drawIf (by kernel_rfl) ?_)|refine vN rfl ?_|refine Vc.draw rfl (by kernel_rfl) ?_|refine mkSl (by omega) (by omega) ?_);conv=>whnf) | (refine ifB_i (fun _=>?_) (fun _=>?_)<;>conv=>whnf) | (refine ⟨_, within_any m hm l, ?_⟩;conv=>whnf)
  · rename_i h
    have h : ((ints l).length : Int) = n := by simpa using h
    exact rB (by rw [any_all]; unfold within; rw [decide_eq_true (by omega), Bool.true_and])
  · rename_i h
    have h : ((ints l).length : Int) ≠ n := by simpa using h
    exact rB (by unfold within; rw [decide_eq_false (by omega), Bool.false_and])
theorem spec_frmOk (f : Form) : Sem P 382 [(.pure, .agg (aF f))] [] (B f.ok) := by
  refine fn_okR (E := E0) E0_tab E0_ord (fn := Go.Proofs.Tryz.f382) (by kernel_rfl) (by kernel_rfl) (fun hb => ?_)
  conv => whnf
  repeat' first | ((first|refine sN ?_|refine Dr.cons ?_|(refine Dr.nil ?_;refine drawIf (by kernel_rfl) ?_)|refine vN rfl ?_|refine Vc.draw rfl (by kernel_rfl) ?_|refine mkSl (by omega) (by omega) ?_);conv=>whnf) | (refine ifB_i (fun _=>?_) (fun _=>?_)<;>conv=>whnf) | ((first | refine ⟨_, spec_all _ 3 _ (by omega), ?_⟩ | refine ⟨_, spec_all _ 2 _ (by omega), ?_⟩ | refine ⟨_, spec_in _ _ _, ?_⟩);conv=>whnf)
  all_goals exact rB (by simp_all [Form.ok])
theorem impl_frmOk (f : Form) : Sem P 80 [(.pure, .agg (aF f))] [] (B f.ok) := by
  refine fn_okR (E := E0) E0_tab E0_ord (fn := Go.Proofs.Tryz.f80) (by kernel_rfl) (by kernel_rfl) (fun hb => ?_)
  conv => whnf
  repeat' first | ((first|refine sN ?_|refine Dr.cons ?_|(refine Dr.nil ?_;refine drawIf (by kernel_rfl) ?_)|refine vN rfl ?_|refine Vc.draw rfl (by kernel_rfl) ?_|refine mkSl (by omega) (by omega) ?_);conv=>whnf) | (refine ifB_i (fun _=>?_) (fun _=>?_)<;>conv=>whnf) | ((first | refine ⟨_, impl_within _ 3 _ (by omega), ?_⟩ | refine ⟨_, impl_within _ 2 _ (by omega), ?_⟩ | refine ⟨_, impl_in _ _ _, ?_⟩);conv=>whnf)
  all_goals exact rB (by simp_all [Form.ok])
theorem spec_valOk (l : List Int) : Sem P 182 [(.pure, AI l)] [] (B (valOk l)) := by
  refine fn_okR (E := E0) E0_tab E0_ord (fn := Go.Proofs.Tryz.f182) (by kernel_rfl) (by kernel_rfl) (fun hb => ?_)
  conv => whnf
  repeat' first | ((first|refine sN ?_|refine Dr.cons ?_|(refine Dr.nil ?_;refine drawIf (by kernel_rfl) ?_)|refine vN rfl ?_|refine Vc.draw rfl (by kernel_rfl) ?_|refine mkSl (by omega) (by omega) ?_);conv=>whnf) | (refine ifB_i (fun _=>?_) (fun _=>?_)<;>conv=>whnf) | (refine ⟨_, spec_all _ 3 _ (by omega), ?_⟩;conv=>whnf)
  exact rB rfl
theorem impl_valOk (l : List Int) : Sem P 19 [(.pure, AI l)] [] (B (valOk l)) := by
  refine fn_okR (E := E0) E0_tab E0_ord (fn := Go.Proofs.Tryz.f19) (by kernel_rfl) (by kernel_rfl) (fun hb => ?_)
  conv => whnf
  repeat' first | ((first|refine sN ?_|refine Dr.cons ?_|(refine Dr.nil ?_;refine drawIf (by kernel_rfl) ?_)|refine vN rfl ?_|refine Vc.draw rfl (by kernel_rfl) ?_|refine mkSl (by omega) (by omega) ?_);conv=>whnf) | (refine ifB_i (fun _=>?_) (fun _=>?_)<;>conv=>whnf) | (refine ⟨_, impl_within _ 3 _ (by omega), ?_⟩;conv=>whnf)
  exact rB rfl
theorem spec_argOk (l : List Int) : Sem P 183 [(.pure, AI l)] [] (B (argOk l)) := by
  refine fn_okR (E := E0) E0_tab E0_ord (fn := Go.Proofs.Tryz.f183) (by kernel_rfl) (by kernel_rfl) (fun hb => ?_)
  conv => whnf
  repeat' first | ((first|refine sN ?_|refine Dr.cons ?_|(refine Dr.nil ?_;refine drawIf (by kernel_rfl) ?_)|refine vN rfl ?_|refine Vc.draw rfl (by kernel_rfl) ?_|refine mkSl (by omega) (by omega) ?_);conv=>whnf) | (refine ifB_i (fun _=>?_) (fun _=>?_)<;>conv=>whnf) | (refine ⟨_, spec_all _ 2 _ (by omega), ?_⟩;conv=>whnf)
  exact rB rfl
theorem impl_argOk (l : List Int) : Sem P 83 [(.pure, AI l)] [] (B (argOk l)) := by
  refine fn_okR (E := E0) E0_tab E0_ord (fn := Go.Proofs.Tryz.f83) (by kernel_rfl) (by kernel_rfl) (fun hb => ?_)
  conv => whnf
  repeat' first | ((first|refine sN ?_|refine Dr.cons ?_|(refine Dr.nil ?_;refine drawIf (by kernel_rfl) ?_)|refine vN rfl ?_|refine Vc.draw rfl (by kernel_rfl) ?_|refine mkSl (by omega) (by omega) ?_);conv=>whnf) | (refine ifB_i (fun _=>?_) (fun _=>?_)<;>conv=>whnf) | (refine ⟨_, impl_within _ 2 _ (by omega), ?_⟩;conv=>whnf)
  exact rB rfl
theorem spec_small (f : Form) : Sem P 340 [(.pure, .agg (aF f))] [] (B f.small) := by
  refine fn_okR (E := E0) E0_tab E0_ord (fn := Go.Proofs.Tryz.f340) (by kernel_rfl) (by kernel_rfl) (fun hb => ?_)
  conv => whnf
  repeat' first | ((first|refine sN ?_|refine Dr.cons ?_|(refine Dr.nil ?_;refine drawIf (by kernel_rfl) ?_)|refine vN rfl ?_|refine Vc.draw rfl (by kernel_rfl) ?_|refine mkSl (by omega) (by omega) ?_);conv=>whnf) | (refine ifB_i (fun _=>?_) (fun _=>?_)<;>conv=>whnf) | ((first | refine ⟨_, spec_all _ 3 _ (by omega), ?_⟩ | refine ⟨_, spec_all _ 2 _ (by omega), ?_⟩ | refine ⟨_, spec_in _ _ _, ?_⟩);conv=>whnf)
  all_goals exact rB (by simp_all [Form.small])
theorem impl_small (f : Form) : Sem P 284 [(.pure, .agg (aF f))] [] (B f.small) := by
  refine fn_okR (E := E0) E0_tab E0_ord (fn := Go.Proofs.Tryz.f284) (by kernel_rfl) (by kernel_rfl) (fun hb => ?_)
  conv => whnf
  repeat' first | ((first|refine sN ?_|refine Dr.cons ?_|(refine Dr.nil ?_;refine drawIf (by kernel_rfl) ?_)|refine vN rfl ?_|refine Vc.draw rfl (by kernel_rfl) ?_|refine mkSl (by omega) (by omega) ?_);conv=>whnf) | (refine ifB_i (fun _=>?_) (fun _=>?_)<;>conv=>whnf) | ((first | refine ⟨_, impl_within _ 3 _ (by omega), ?_⟩ | refine ⟨_, impl_within _ 2 _ (by omega), ?_⟩ | refine ⟨_, impl_in _ _ _, ?_⟩);conv=>whnf)
  all_goals exact rB (by simp_all [Form.small])
theorem spec_zero : Sem P 255 [] [] (.agg (aF Form.zero)) := by
  refine fn_okR (E := E0) E0_tab E0_ord (fn := Go.Proofs.Tryz.f255) (by kernel_rfl) (by kernel_rfl) (fun hb => ?_)
  conv => whnf
  (repeat' first | ((first|refine sN ?_|refine Dr.cons ?_|(refine Dr.nil ?_;refine drawIf (by kernel_rfl) ?_)|refine vN rfl ?_|refine Vc.draw rfl (by kernel_rfl) ?_|refine mkSl (by omega) (by omega) ?_);conv=>whnf))
  exact ⟨rfl, rfl⟩
theorem impl_zero : Sem P 81 [] [] (.agg (aF Form.zero)) := by
  refine fn_okR (E := E0) E0_tab E0_ord (fn := Go.Proofs.Tryz.f81) (by kernel_rfl) (by kernel_rfl) (fun hb => ?_)
  conv => whnf
  (repeat' first | ((first|refine sN ?_|refine Dr.cons ?_|(refine Dr.nil ?_;refine drawIf (by kernel_rfl) ?_)|refine vN rfl ?_|refine Vc.draw rfl (by kernel_rfl) ?_|refine mkSl (by omega) (by omega) ?_);conv=>whnf))
  exact ⟨rfl, rfl⟩
end Cc
end
section
namespace Cc
open Go Go.AM
set_option maxRecDepth 100000
set_option maxHeartbeats 4000000
def nums (l : List Int) (n : Nat) : Prop := l.length = n ∧ ∀ x ∈ l, -10000000000 ≤ x ∧ x ≤ 10000000000
theorem nums3 {l : List Int} (h : nums l 3) : ∃ a b c, l = [a, b, c] ∧ (-10000000000 ≤ a ∧ a ≤ 10000000000) ∧ (-10000000000 ≤ b ∧ b ≤ 10000000000) ∧ (-10000000000 ≤ c ∧ c ≤ 10000000000) := by
  obtain ⟨a, b, c, rfl⟩ := len3 h.1
  exact ⟨a, b, c, rfl, h.2 a (by simp), h.2 b (by simp), h.2 c (by simp)⟩
theorem nums2 {l : List Int} (h : nums l 2) : ∃ a b, l = [a, b] ∧ (-10000000000 ≤ a ∧ a ≤ 10000000000) ∧ (-10000000000 ≤ b ∧ b ≤ 10000000000) := by
  obtain ⟨a, b, rfl⟩ := len2 h.1
  exact ⟨a, b, rfl, h.2 a (by simp), h.2 b (by simp)⟩
theorem spec_at (f : Form) (vals args : List Int) (hf : f.bd 10000000) (hv : nums vals 3) (ha : nums args 2) : Sem P 184 [(.pure, .agg (aF f)), (.pure, AI vals), (.pure, AI args)] [] (I (f.at vals args)) := by
  obtain ⟨a, b, c, d, e, k, rfl, h1, h2, h3, h4, h5, h6⟩ := bdE hf
  obtain ⟨x, y, z, rfl, v1, v2, v3⟩ := nums3 hv
  obtain ⟨g, h, rfl, w1, w2⟩ := nums2 ha
  have p1 := mul_bd h1 v1
  have p2 := mul_bd h2 v2
  have p3 := mul_bd h3 v3
  have p4 := mul_bd h4 w1
  have p5 := mul_bd h5 w2
  refine fn_okR (E := E0) E0_tab E0_ord (fn := Go.Proofs.Tryz.f184) (by kernel_rfl) (by kernel_rfl) (fun hb => ?_)
  conv => whnf
  (repeat' first | ((first|refine sN ?_|refine Dr.cons ?_|(refine Dr.nil ?_;refine drawIf (by kernel_rfl) ?_)|refine vN rfl ?_|refine Vc.draw rfl (by kernel_rfl) ?_|refine mkSl (by omega) (by omega) ?_);conv=>whnf))
  refine Vc.loop2 (fun i n => i ≤ 3 ∧ n = match i with | 0 => k | 1 => k + a * x | 2 => k + a * x + b * y | _ => k + a * x + b * y + c * z) (fun i n => updL [1, 2, 3, 6, 9, 28, 29, 30, 31, 32, 33, 34, 35, 36, 37, 38, 39, 40, 41, 42, 43, 44] [(8, I (i : Nat)), (7, I n)] []) (fun i _ => 3 - i) 0 k ⟨by omega, rfl⟩ ?_ (fun i n hi => ?_)
  · repeat' (first | exact True.intro | ((conv => whnf); first | exact True.intro | refine ⟨by rfl, ?_⟩ | refine ⟨?_, ?_⟩))
  · obtain ⟨hi, hn⟩ := hi
    match i, hi with
    | 0, _ =>
      simp only at hn
      conv => whnf
      repeat' first | ((first|refine sN ?_|refine Dr.cons ?_|(refine Dr.nil ?_;refine drawIf (by kernel_rfl) ?_)|refine vN rfl ?_|refine Vc.draw rfl (by kernel_rfl) ?_|refine mkSl (by omega) (by omega) ?_);conv=>whnf) | (refine ifB_i (fun _=>?_) (fun _=>?_)<;>conv=>whnf) | ((first | refine ixK rfl ?_ | refine w64 (by omega) (by omega) ?_);conv=>whnf)
      refine ⟨1, n + a * x, ⟨by omega, by simp only; omega⟩, by simp only; omega, ?_⟩
      repeat' (first | exact True.intro | ((conv => whnf); first | exact True.intro | refine ⟨by rfl, ?_⟩ | refine ⟨?_, ?_⟩))
    | 1, _ =>
      simp only at hn
      conv => whnf
      repeat' first | ((first|refine sN ?_|refine Dr.cons ?_|(refine Dr.nil ?_;refine drawIf (by kernel_rfl) ?_)|refine vN rfl ?_|refine Vc.draw rfl (by kernel_rfl) ?_|refine mkSl (by omega) (by omega) ?_);conv=>whnf) | (refine ifB_i (fun _=>?_) (fun _=>?_)<;>conv=>whnf) | ((first | refine ixK rfl ?_ | refine w64 (by omega) (by omega) ?_);conv=>whnf)
      refine ⟨2, n + b * y, ⟨by omega, by simp only; omega⟩, by simp only; omega, ?_⟩
      repeat' (first | exact True.intro | ((conv => whnf); first | exact True.intro | refine ⟨by rfl, ?_⟩ | refine ⟨?_, ?_⟩))
    | 2, _ =>
      simp only at hn
      conv => whnf
      repeat' first | ((first|refine sN ?_|refine Dr.cons ?_|(refine Dr.nil ?_;refine drawIf (by kernel_rfl) ?_)|refine vN rfl ?_|refine Vc.draw rfl (by kernel_rfl) ?_|refine mkSl (by omega) (by omega) ?_);conv=>whnf) | (refine ifB_i (fun _=>?_) (fun _=>?_)<;>conv=>whnf) | ((first | refine ixK rfl ?_ | refine w64 (by omega) (by omega) ?_);conv=>whnf)
      refine ⟨3, n + c * z, ⟨by omega, by simp only; omega⟩, by simp only; omega, ?_⟩
      repeat' (first | exact True.intro | ((conv => whnf); first | exact True.intro | refine ⟨by rfl, ?_⟩ | refine ⟨?_, ?_⟩))
    | 3, _ =>
      simp only at hn
      conv => whnf
      (repeat' first | ((first|refine sN ?_|refine Dr.cons ?_|(refine Dr.nil ?_;refine drawIf (by kernel_rfl) ?_)|refine vN rfl ?_|refine Vc.draw rfl (by kernel_rfl) ?_|refine mkSl (by omega) (by omega) ?_);conv=>whnf))
      refine Vc.loop2 (fun i m => i ≤ 2 ∧ m = match i with | 0 => n | 1 => n + d * g | _ => n + d * g + e * h) (fun i m => updL [2, 3, 6, 44] [(9, I (i : Nat)), (7, I m)] []) (fun i _ => 2 - i) 0 n ⟨by omega, rfl⟩ ?_ (fun i m hi => ?_)
      · repeat' (first | exact True.intro | ((conv => whnf); first | exact True.intro | refine ⟨by rfl, ?_⟩ | refine ⟨?_, ?_⟩))
      · obtain ⟨hi, hm⟩ := hi
        match i, hi with
        | 0, _ =>
          simp only at hm
          conv => whnf
          repeat' first | ((first|refine sN ?_|refine Dr.cons ?_|(refine Dr.nil ?_;refine drawIf (by kernel_rfl) ?_)|refine vN rfl ?_|refine Vc.draw rfl (by kernel_rfl) ?_|refine mkSl (by omega) (by omega) ?_);conv=>whnf) | (refine ifB_i (fun _=>?_) (fun _=>?_)<;>conv=>whnf) | ((first | refine ixK rfl ?_ | refine w64 (by omega) (by omega) ?_);conv=>whnf)
          refine ⟨1, m + d * g, ⟨by omega, by simp only; omega⟩, by simp only; omega, ?_⟩
          repeat' (first | exact True.intro | ((conv => whnf); first | exact True.intro | refine ⟨by rfl, ?_⟩ | refine ⟨?_, ?_⟩))
        | 1, _ =>
          simp only at hm
          conv => whnf
          repeat' first | ((first|refine sN ?_|refine Dr.cons ?_|(refine Dr.nil ?_;refine drawIf (by kernel_rfl) ?_)|refine vN rfl ?_|refine Vc.draw rfl (by kernel_rfl) ?_|refine mkSl (by omega) (by omega) ?_);conv=>whnf) | (refine ifB_i (fun _=>?_) (fun _=>?_)<;>conv=>whnf) | ((first | refine ixK rfl ?_ | refine w64 (by omega) (by omega) ?_);conv=>whnf)
          refine ⟨2, m + e * h, ⟨by omega, by simp only; omega⟩, by simp only; omega, ?_⟩
          repeat' (first | exact True.intro | ((conv => whnf); first | exact True.intro | refine ⟨by rfl, ?_⟩ | refine ⟨?_, ?_⟩))
        | 2, _ =>
          simp only at hm
          conv => whnf
          (repeat' first | ((first|refine sN ?_|refine Dr.cons ?_|(refine Dr.nil ?_;refine drawIf (by kernel_rfl) ?_)|refine vN rfl ?_|refine Vc.draw rfl (by kernel_rfl) ?_|refine mkSl (by omega) (by omega) ?_);conv=>whnf))
          exact rI' (by simp only [Form.at, dot]; omega)
theorem spec_pot (v : Nat) (hv : v < 3) : Sem P 250 [(.pure, I v)] [] (.agg (aF (Form.pot v))) := by
  match v, hv with
  | 0, _ | 1, _ | 2, _ =>
    refine fn_okR (E := { E0 with keep := [4000] }) E0_tab E0_ord (fn := Go.Proofs.Tryz.f250) (by kernel_rfl) (by kernel_rfl) (fun hb => ?_)
    conv => whnf
    repeat' first | ((first|refine sN ?_|refine Dr.cons ?_|(refine Dr.nil ?_;refine drawIf (by kernel_rfl) ?_)|refine vN rfl ?_|refine Vc.draw rfl (by kernel_rfl) ?_|refine mkSl (by omega) (by omega) ?_);conv=>whnf) | (refine ifB_i (fun _=>?_) (fun _=>?_)<;>conv=>whnf) | ((first | refine ⟨_, spec_in _ _ _, ?_⟩ | refine ⟨_, spec_zero, ?_⟩ | refine ioK (Nat.le_of_ble_eq_true rfl) ?_ | refine rwC rfl ?_);conv=>whnf)
    all_goals first | (rename_i h; exact absurd h (by decide)) | exact ⟨rfl, rfl⟩
theorem spec_sum (f g : Form) (n : Int) (hf : f.bd 1000000000000000) (hg : g.bd 10000000) (hn : -10000000000 ≤ n ∧ n ≤ 10000000000) : Sem P 359 [(.pure, .agg (aF f)), (.pure, .agg (aF g)), (.pure, I n)] [] (.agg (aF (lin f g n))) := by
  obtain ⟨a, b, c, d, e, k, rfl, h1, h2, h3, h4, h5, h6⟩ := bdE hf
  obtain ⟨a', b', c', d', e', k', rfl, g1, g2, g3, g4, g5, g6⟩ := bdE hg
  have p1 := mul_bd hn g1
  have p2 := mul_bd hn g2
  have p3 := mul_bd hn g3
  have p4 := mul_bd hn g4
  have p5 := mul_bd hn g5
  have p6 := mul_bd hn g6
  refine fn_okR (E := { E0 with keep := [2000] }) E0_tab E0_ord (fn := Go.Proofs.Tryz.f359) (by kernel_rfl) (by kernel_rfl) (fun hb => ?_)
  conv => whnf
  repeat' first | ((first|refine sN ?_|refine Dr.cons ?_|(refine Dr.nil ?_;refine drawIf (by kernel_rfl) ?_)|refine vN rfl ?_|refine Vc.draw rfl (by kernel_rfl) ?_|refine mkSl (by omega) (by omega) ?_);conv=>whnf) | (refine ifB_i (fun _=>?_) (fun _=>?_)<;>conv=>whnf) | (refine ⟨_, spec_zero, ?_⟩;conv=>whnf)
  refine Vc.loop2 (fun i l => i ≤ 3 ∧ l = match i with | 0 => [0, 0, 0] | 1 => [a + n * a', 0, 0] | 2 => [a + n * a', b + n * b', 0] | _ => [a + n * a', b + n * b', c + n * c']) (fun i l => updL [2, 3, 4, 6, 7, 9, 32, 33, 34, 35, 36, 37, 38, 39, 40, 41, 42, 43, 44, 45, 46, 47, 48, 49, 50, 51, 52, 53, 54, 55, 56, 57, 58, 59, 60, 61] [(8, I (i : Nat))] [(128000, .arr 3 (ints l) false)]) (fun i _ => 3 - i) 0 [0, 0, 0] ⟨by omega, rfl⟩ ?_ (fun i l hi => ?_)
  · repeat' (first | exact True.intro | ((conv => whnf); first | exact True.intro | refine ⟨by rfl, ?_⟩ | refine ⟨?_, ?_⟩))
  · obtain ⟨hi, hl⟩ := hi
    match i, hi with
    | 0, _ =>
      simp only at hl; subst hl
      conv => whnf
      repeat' first | ((first|refine sN ?_|refine Dr.cons ?_|(refine Dr.nil ?_;refine drawIf (by kernel_rfl) ?_)|refine vN rfl ?_|refine Vc.draw rfl (by kernel_rfl) ?_|refine mkSl (by omega) (by omega) ?_);conv=>whnf) | (refine ifB_i (fun _=>?_) (fun _=>?_)<;>conv=>whnf) | ((first | refine ixK rfl ?_ | refine w64 (by omega) (by omega) ?_ | refine ioK (Nat.le_of_ble_eq_true rfl) ?_ | refine rwC rfl ?_);conv=>whnf)
      refine ⟨1, [a + n * a', 0, 0], ⟨by omega, rfl⟩, by simp only; omega, ?_⟩
      repeat' (first | exact True.intro | ((conv => whnf); first | exact True.intro | refine ⟨by rfl, ?_⟩ | refine ⟨?_, ?_⟩))
    | 1, _ =>
      simp only at hl; subst hl
      conv => whnf
      repeat' first | ((first|refine sN ?_|refine Dr.cons ?_|(refine Dr.nil ?_;refine drawIf (by kernel_rfl) ?_)|refine vN rfl ?_|refine Vc.draw rfl (by kernel_rfl) ?_|refine mkSl (by omega) (by omega) ?_);conv=>whnf) | (refine ifB_i (fun _=>?_) (fun _=>?_)<;>conv=>whnf) | ((first | refine ixK rfl ?_ | refine w64 (by omega) (by omega) ?_ | refine ioK (Nat.le_of_ble_eq_true rfl) ?_ | refine rwC rfl ?_);conv=>whnf)
      refine ⟨2, [a + n * a', b + n * b', 0], ⟨by omega, rfl⟩, by simp only; omega, ?_⟩
      repeat' (first | exact True.intro | ((conv => whnf); first | exact True.intro | refine ⟨by rfl, ?_⟩ | refine ⟨?_, ?_⟩))
    | 2, _ =>
      simp only at hl; subst hl
      conv => whnf
      repeat' first | ((first|refine sN ?_|refine Dr.cons ?_|(refine Dr.nil ?_;refine drawIf (by kernel_rfl) ?_)|refine vN rfl ?_|refine Vc.draw rfl (by kernel_rfl) ?_|refine mkSl (by omega) (by omega) ?_);conv=>whnf) | (refine ifB_i (fun _=>?_) (fun _=>?_)<;>conv=>whnf) | ((first | refine ixK rfl ?_ | refine w64 (by omega) (by omega) ?_ | refine ioK (Nat.le_of_ble_eq_true rfl) ?_ | refine rwC rfl ?_);conv=>whnf)
      refine ⟨3, [a + n * a', b + n * b', c + n * c'], ⟨by omega, rfl⟩, by simp only; omega, ?_⟩
      repeat' (first | exact True.intro | ((conv => whnf); first | exact True.intro | refine ⟨by rfl, ?_⟩ | refine ⟨?_, ?_⟩))
    | 3, _ =>
      simp only at hl; subst hl
      conv => whnf
      (repeat' first | ((first|refine sN ?_|refine Dr.cons ?_|(refine Dr.nil ?_;refine drawIf (by kernel_rfl) ?_)|refine vN rfl ?_|refine Vc.draw rfl (by kernel_rfl) ?_|refine mkSl (by omega) (by omega) ?_);conv=>whnf))
      refine Vc.loop2 (fun i l => i ≤ 2 ∧ l = match i with | 0 => [0, 0] | 1 => [d + n * d', 0] | _ => [d + n * d', e + n * e']) (fun i l => updL [2, 3, 4, 6, 7, 53, 54, 55, 56, 57, 58, 59, 60, 61] [(9, I (i : Nat))] [(128001, .arr 3 (ints l) false)]) (fun i _ => 2 - i) 0 [0, 0] ⟨by omega, rfl⟩ ?_ (fun i l hi => ?_)
      · repeat' (first | exact True.intro | ((conv => whnf); first | exact True.intro | refine ⟨by rfl, ?_⟩ | refine ⟨?_, ?_⟩))
      · obtain ⟨hi, hl⟩ := hi
        match i, hi with
        | 0, _ =>
          simp only at hl; subst hl
          conv => whnf
          repeat' first | ((first|refine sN ?_|refine Dr.cons ?_|(refine Dr.nil ?_;refine drawIf (by kernel_rfl) ?_)|refine vN rfl ?_|refine Vc.draw rfl (by kernel_rfl) ?_|refine mkSl (by omega) (by omega) ?_);conv=>whnf) | (refine ifB_i (fun _=>?_) (fun _=>?_)<;>conv=>whnf) | ((first | refine ixK rfl ?_ | refine w64 (by omega) (by omega) ?_ | refine ioK (Nat.le_of_ble_eq_true rfl) ?_ | refine rwC rfl ?_);conv=>whnf)
          refine ⟨1, [d + n * d', 0], ⟨by omega, rfl⟩, by simp only; omega, ?_⟩
          repeat' (first | exact True.intro | ((conv => whnf); first | exact True.intro | refine ⟨by rfl, ?_⟩ | refine ⟨?_, ?_⟩))
        | 1, _ =>
          simp only at hl; subst hl
          conv => whnf
          repeat' first | ((first|refine sN ?_|refine Dr.cons ?_|(refine Dr.nil ?_;refine drawIf (by kernel_rfl) ?_)|refine vN rfl ?_|refine Vc.draw rfl (by kernel_rfl) ?_|refine mkSl (by omega) (by omega) ?_);conv=>whnf) | (refine ifB_i (fun _=>?_) (fun _=>?_)<;>conv=>whnf) | ((first | refine ixK rfl ?_ | refine w64 (by omega) (by omega) ?_ | refine ioK (Nat.le_of_ble_eq_true rfl) ?_ | refine rwC rfl ?_);conv=>whnf)
          refine ⟨2, [d + n * d', e + n * e'], ⟨by omega, rfl⟩, by simp only; omega, ?_⟩
          repeat' (first | exact True.intro | ((conv => whnf); first | exact True.intro | refine ⟨by rfl, ?_⟩ | refine ⟨?_, ?_⟩))
        | 2, _ =>
          simp only at hl; subst hl
          conv => whnf
          repeat' first | ((first|refine sN ?_|refine Dr.cons ?_|(refine Dr.nil ?_;refine drawIf (by kernel_rfl) ?_)|refine vN rfl ?_|refine Vc.draw rfl (by kernel_rfl) ?_|refine mkSl (by omega) (by omega) ?_);conv=>whnf) | (refine ifB_i (fun _=>?_) (fun _=>?_)<;>conv=>whnf) | (refine w64 (by dsimp only; omega) (by dsimp only; omega) ?_;conv=>whnf)
          exact ⟨rfl, rfl⟩
theorem zero_bd : Form.zero.bd 0 := ⟨⟨rfl, rfl⟩, by simp [Form.zero], by simp [Form.zero], by decide, by decide⟩
theorem spec_minus (f : Form) (hf : f.bd 10000000) : Sem P 358 [(.pure, .agg (aF f))] [] (.agg (aF (minus f))) := by
  have h := hf.2.2.2
  refine fn_okR (E := { E0 with keep := [2002] }) E0_tab E0_ord (fn := Go.Proofs.Tryz.f358) (by kernel_rfl) (by kernel_rfl) (fun hb => ?_)
  conv => whnf
  repeat' first | ((first|refine sN ?_|refine Dr.cons ?_|(refine Dr.nil ?_;refine drawIf (by kernel_rfl) ?_)|refine vN rfl ?_|refine Vc.draw rfl (by kernel_rfl) ?_|refine mkSl (by omega) (by omega) ?_);conv=>whnf) | (refine ifB_i (fun _=>?_) (fun _=>?_)<;>conv=>whnf) | ((first | refine ⟨_, spec_zero, ?_⟩ | refine ⟨_, spec_sum Form.zero f (-1) (bd_mono zero_bd (by decide)) hf (by decide), ?_⟩);conv=>whnf) | (refine w64 (by simp only [lin, Form.zero]; omega) (by simp only [lin, Form.zero]; omega) ?_;conv=>whnf)
  exact ⟨rfl, rfl⟩
end Cc
end
section
namespace Cc
open Go Go.AM
set_option maxRecDepth 100000
set_option maxHeartbeats 4000000
theorem form_nil (f : Form) : f = Form.nil ↔ f.C = [] ∧ f.D = [] ∧ f.K = 0 := by
  obtain ⟨C, D, K⟩ := f
  simp [Form.nil]
theorem ints_nil {l : List Int} : (ints l).length = 0 ↔ l = [] := by simp
theorem spec_line (l : Line) : Sem P 283 [(.pure, .agg (aL l))] [] (B l.ok) := by
  refine fn_okR (E := E0) E0_tab E0_ord (fn := Go.Proofs.Tryz.f283) (by kernel_rfl) (by kernel_rfl) (fun hb => ?_)
  have hb1 : (ints l.Form.C).length ≤ 1125899906842624 := (hb.1 (sI l.Form.C) (by simp)).1
  have hb2 : (ints l.Form.D).length ≤ 1125899906842624 := (hb.1 (sI l.Form.D) (by simp)).1
  conv => whnf
  repeat' first | ((first|refine sN ?_|refine Dr.cons ?_|(refine Dr.nil ?_;refine drawIf (by kernel_rfl) ?_)|refine vN rfl ?_|refine Vc.draw rfl (by kernel_rfl) ?_|refine mkSl (by omega) (by omega) ?_);conv=>whnf) | (refine ifB_i (fun _=>?_) (fun _=>?_)<;>conv=>whnf) | ((first | refine ⟨_, spec_in _ _ _, ?_⟩ | refine ⟨_, spec_small l.Form, ?_⟩ | refine w64 (by omega) (by omega) ?_);conv=>whnf)
  all_goals first
    | (refine rB ?_; simp_all [Line.ok, form_nil]; done)
    | (rename_i h
       refine rB ?_
       by_cases hl : ((ints l.Form.C).length : Int) + (ints l.Form.D).length = 0
       · have c := ints_nil.1 (show (ints l.Form.C).length = 0 by omega)
         have d := ints_nil.1 (show (ints l.Form.D).length = 0 by omega)
         by_cases k : l.Form.K = 0 <;> simp_all [Line.ok, form_nil]
       · have h' : l.Form ≠ Form.nil := fun e => hl (by rw [e]; rfl)
         simp_all [Line.ok])
theorem ints_eq (a b : List Int) : Sem P 113 [(.pure, AI a), (.pure, AI b)] [] (B (decide (a = b))) := by
  refine fn_okR (E := E0) E0_tab E0_ord (fn := Go.Proofs.Tryz.f113) (by kernel_rfl) (by kernel_rfl) (fun hb => ?_)
  have la := ints_len a
  have lb := ints_len b
  have hb1 : (ints a).length ≤ 1125899906842624 := hb.1.1
  conv => whnf
  (repeat' first | ((first|refine sN ?_|refine Dr.cons ?_|(refine Dr.nil ?_;refine drawIf (by kernel_rfl) ?_)|refine vN rfl ?_|refine Vc.draw rfl (by kernel_rfl) ?_|refine mkSl (by omega) (by omega) ?_);conv=>whnf))
  refine ifB_i (fun h => ?_) (fun h => ?_)
  all_goals conv => whnf
  all_goals (repeat' first | ((first|refine sN ?_|refine Dr.cons ?_|(refine Dr.nil ?_;refine drawIf (by kernel_rfl) ?_)|refine vN rfl ?_|refine Vc.draw rfl (by kernel_rfl) ?_|refine mkSl (by omega) (by omega) ?_);conv=>whnf))
  · exact rB (by have := ne_of_bne h; symm; simp; intro e; subst e; simp at this)
  · have h := eq_of_bne h
    refine Vc.loop { i : Nat // ∀ j, j < i → a.getD j 0 = b.getD j 0 } (fun i => updL [0, 1, 12] [(13, I i.1)] []) (fun i => a.length - i.1) ⟨0, by simp⟩ ?_ (fun i => ?_)
    · repeat' (first | exact True.intro | ((conv => whnf); first | exact True.intro | refine ⟨by rfl, ?_⟩ | refine ⟨?_, ?_⟩))
    · have hi := i.2
      conv => whnf
      (repeat' first | ((first|refine sN ?_|refine Dr.cons ?_|(refine Dr.nil ?_;refine drawIf (by kernel_rfl) ?_)|refine vN rfl ?_|refine Vc.draw rfl (by kernel_rfl) ?_|refine mkSl (by omega) (by omega) ?_);conv=>whnf))
      refine ifB_d (fun g => ?_) (fun g => ?_)
      all_goals conv => whnf
      · repeat' first | ((first|refine sN ?_|refine Dr.cons ?_|(refine Dr.nil ?_;refine drawIf (by kernel_rfl) ?_)|refine vN rfl ?_|refine Vc.draw rfl (by kernel_rfl) ?_|refine mkSl (by omega) (by omega) ?_);conv=>whnf) | (refine ifB_i (fun _=>?_) (fun _=>?_)<;>conv=>whnf) | ((first | refine ixN (enc := rI) 0 (by omega) ?_ | refine w64 (by omega) (by omega) ?_);conv=>whnf)
        · rename_i g'
          exact rB (by have := ne_of_bne g'; symm; simp; intro e; subst e; simp at this)
        · rename_i g'
          have e := eq_of_bne g'
          refine ⟨⟨i.1 + 1, fun j hj => ?_⟩, ?_, ?_⟩
          · by_cases h : j < i.1
            · exact hi j h
            · obtain rfl : j = i.1 := by omega
              exact e
          · simp only; omega
          · repeat' (first | exact True.intro | ((conv => whnf); first | exact True.intro | refine ⟨by rfl, ?_⟩ | refine ⟨?_, ?_⟩))
      · (repeat' first | ((first|refine sN ?_|refine Dr.cons ?_|(refine Dr.nil ?_;refine drawIf (by kernel_rfl) ?_)|refine vN rfl ?_|refine Vc.draw rfl (by kernel_rfl) ?_|refine mkSl (by omega) (by omega) ?_);conv=>whnf))
        exact rB (by symm; simp; exact ext_get 0 (by omega) fun j hj => hi j (by omega))
theorem impl_same (f g : Form) : Sem P 285 [(.pure, .agg (aF f)), (.pure, .agg (aF g))] [] (B (decide (f = g))) := by
  refine fn_okR (E := E0) E0_tab E0_ord (fn := Go.Proofs.Tryz.f285) (by kernel_rfl) (by kernel_rfl) (fun hb => ?_)
  conv => whnf
  repeat' first | ((first|refine sN ?_|refine Dr.cons ?_|(refine Dr.nil ?_;refine drawIf (by kernel_rfl) ?_)|refine vN rfl ?_|refine Vc.draw rfl (by kernel_rfl) ?_|refine mkSl (by omega) (by omega) ?_);conv=>whnf) | (refine ifB_i (fun _=>?_) (fun _=>?_)<;>conv=>whnf) | (refine ⟨_, ints_eq _ _, ?_⟩;conv=>whnf)
  all_goals exact rB (by obtain ⟨C, D, K⟩ := f; obtain ⟨C', D', K'⟩ := g; simp_all)
theorem impl_line (l : Line) : Sem P 186 [(.pure, .agg (aL l))] [] (B l.ok) := by
  refine fn_okR (E := E0) E0_tab E0_ord (fn := Go.Proofs.Tryz.f186) (by kernel_rfl) (by kernel_rfl) (fun hb => ?_)
  conv => whnf
  repeat' first | ((first|refine sN ?_|refine Dr.cons ?_|(refine Dr.nil ?_;refine drawIf (by kernel_rfl) ?_)|refine vN rfl ?_|refine Vc.draw rfl (by kernel_rfl) ?_|refine mkSl (by omega) (by omega) ?_);conv=>whnf) | (refine ifB_i (fun _=>?_) (fun _=>?_)<;>conv=>whnf) | ((first | refine ⟨_, impl_in _ _ _, ?_⟩ | refine ⟨_, impl_small l.Form, ?_⟩ | refine ⟨_, impl_same l.Form Form.nil, ?_⟩);conv=>whnf)
  all_goals exact rB (by simp_all [Line.ok])
end Cc
end
section
namespace Cc
open Go Go.AM
set_option maxRecDepth 100000
set_option maxHeartbeats 4000000
theorem tests_succ {act : List Line} {i : Nat} (h : i < act.length) : tests (act.take (i + 1)) = tests (act.take i) + if (act.getD i default).Kind = 1 then 1 else 0 := by
  rw [List.take_add_one, tests, tests, List.countP_append, List.getD_eq_getElem?_getD, List.getElem?_eq_getElem h]
  by_cases k : (act[i]).Kind = 1 <;> simp [k]
theorem spec_actOk (act : List Line) : Sem P 181 [(.pure, .one (sLs act))] [] (B (actOk act)) := by
  refine fn_okR (E := E0) E0_tab E0_ord (fn := Go.Proofs.Tryz.f181) (by kernel_rfl) (by kernel_rfl) (fun hb => ?_)
  have la : (act.map eL).length = act.length := List.length_map ..
  have hb1 : (act.map eL).length ≤ 1125899906842624 := hb.1.1
  conv => whnf
  (repeat' first | ((first|refine sN ?_|refine Dr.cons ?_|(refine Dr.nil ?_;refine drawIf (by kernel_rfl) ?_)|refine vN rfl ?_|refine Vc.draw rfl (by kernel_rfl) ?_|refine mkSl (by omega) (by omega) ?_);conv=>whnf))
  refine Vc.loop2 (fun (i : Nat) (n : Nat) => i ≤ act.length ∧ n ≤ i ∧ n = tests (act.take i) ∧ ∀ j, j < i → (act.getD j default).ok = true) (fun i n => updL [0, 25, 26, 27, 28, 29, 30, 31] [(4, I i), (3, I n)] []) (fun i _ => act.length - i) 0 0 ⟨by omega, by omega, rfl, by simp⟩ ?_ (fun i n hi => ?_)
  · repeat' (first | exact True.intro | ((conv => whnf); first | exact True.intro | refine ⟨by rfl, ?_⟩ | refine ⟨?_, ?_⟩))
  · obtain ⟨hi, hn, ht, ho⟩ := hi
    conv => whnf
    (repeat' first | ((first|refine sN ?_|refine Dr.cons ?_|(refine Dr.nil ?_;refine drawIf (by kernel_rfl) ?_)|refine vN rfl ?_|refine Vc.draw rfl (by kernel_rfl) ?_|refine mkSl (by omega) (by omega) ?_);conv=>whnf))
    refine ifB_d (fun g => ?_) (fun g => ?_)
    all_goals conv => whnf
    · have ts := tests_succ (act := act) (i := i) (by omega)
      repeat' first | ((first|refine sN ?_|refine Dr.cons ?_|(refine Dr.nil ?_;refine drawIf (by kernel_rfl) ?_)|refine vN rfl ?_|refine Vc.draw rfl (by kernel_rfl) ?_|refine mkSl (by omega) (by omega) ?_);conv=>whnf) | (refine ifB_i (fun _=>?_) (fun _=>?_)<;>conv=>whnf) | ((first | refine ixN (enc := eL) default (by omega) ?_ | refine ⟨_, spec_line (act.getD i default), ?_⟩ | refine w64 (by omega) (by omega) ?_);conv=>whnf)
      · rename_i h
        exact rB (by symm; simp only [actOk, Bool.and_eq_false_iff]; exact .inl (.inl (all_not default (j := i) (by omega) (by simpa using h))))
      · rename_i h k
        have k : (act.getD i default).Kind = 1 := by simpa using k
        rw [if_pos k] at ts
        refine ⟨i + 1, n + 1, ⟨by omega, by omega, by omega, fun j hj => ?_⟩, by simp only; omega, ?_⟩
        · by_cases h' : j < i
          · exact ho j h'
          · obtain rfl : j = i := by omega
            simpa using h
        · repeat' (first | exact True.intro | ((conv => whnf); first | exact True.intro | refine ⟨by rfl, ?_⟩ | refine ⟨?_, ?_⟩))
      · rename_i h k
        have k : ¬ (act.getD i default).Kind = 1 := by simpa using k
        rw [if_neg k] at ts
        refine ⟨i + 1, n, ⟨by omega, by omega, by omega, fun j hj => ?_⟩, by simp only; omega, ?_⟩
        · by_cases h' : j < i
          · exact ho j h'
          · obtain rfl : j = i := by omega
            simpa using h
        · repeat' (first | exact True.intro | ((conv => whnf); first | exact True.intro | refine ⟨by rfl, ?_⟩ | refine ⟨?_, ?_⟩))
    · have e : i = act.length := by omega
      subst e
      rw [List.take_length] at ht
      have hall : act.all Line.ok = true := all_get default ho
      (repeat' first | ((first|refine sN ?_|refine Dr.cons ?_|(refine Dr.nil ?_;refine drawIf (by kernel_rfl) ?_)|refine vN rfl ?_|refine Vc.draw rfl (by kernel_rfl) ?_|refine mkSl (by omega) (by omega) ?_);conv=>whnf))
      all_goals (refine ifB_i (fun g1 => ?_) (fun g1 => ?_) <;> conv => whnf)
      all_goals (repeat' first | ((first|refine sN ?_|refine Dr.cons ?_|(refine Dr.nil ?_;refine drawIf (by kernel_rfl) ?_)|refine vN rfl ?_|refine Vc.draw rfl (by kernel_rfl) ?_|refine mkSl (by omega) (by omega) ?_);conv=>whnf))
      all_goals exact rB (by rw [Bool.eq_iff_iff]; simp only [actOk, hall, Bool.true_and]; simp at g1; simp [← ht]; omega)
theorem impl_actOk (act : List Line) : Sem P 82 [(.pure, .one (sLs act))] [] (B (actOk act)) := by
  refine fn_okR (E := E0) E0_tab E0_ord (fn := Go.Proofs.Tryz.f82) (by kernel_rfl) (by kernel_rfl) (fun hb => ?_)
  have la : (act.map eL).length = act.length := List.length_map ..
  have hb1 : (act.map eL).length ≤ 1125899906842624 := hb.1.1
  conv => whnf
  (repeat' first | ((first|refine sN ?_|refine Dr.cons ?_|(refine Dr.nil ?_;refine drawIf (by kernel_rfl) ?_)|refine vN rfl ?_|refine Vc.draw rfl (by kernel_rfl) ?_|refine mkSl (by omega) (by omega) ?_);conv=>whnf))
  refine Vc.loop2 (fun (i : Nat) (n : Nat) => i ≤ act.length ∧ n ≤ i ∧ n = tests (act.take i) ∧ ∀ j, j < i → (act.getD j default).ok = true) (fun i n => updL [0, 6, 7, 21, 22, 23, 24, 25, 26, 27] [(8, I i), (3, I n)] []) (fun i _ => act.length - i) 0 0 ⟨by omega, by omega, rfl, by simp⟩ ?_ (fun i n hi => ?_)
  · repeat' (first | exact True.intro | ((conv => whnf); first | exact True.intro | refine ⟨by rfl, ?_⟩ | refine ⟨?_, ?_⟩))
  · obtain ⟨hi, hn, ht, ho⟩ := hi
    conv => whnf
    (repeat' first | ((first|refine sN ?_|refine Dr.cons ?_|(refine Dr.nil ?_;refine drawIf (by kernel_rfl) ?_)|refine vN rfl ?_|refine Vc.draw rfl (by kernel_rfl) ?_|refine mkSl (by omega) (by omega) ?_);conv=>whnf))
    refine ifB_d (fun g => ?_) (fun g => ?_)
    all_goals conv => whnf
    · have ts := tests_succ (act := act) (i := i) (by omega)
      repeat' first | ((first|refine sN ?_|refine Dr.cons ?_|(refine Dr.nil ?_;refine drawIf (by kernel_rfl) ?_)|refine vN rfl ?_|refine Vc.draw rfl (by kernel_rfl) ?_|refine mkSl (by omega) (by omega) ?_);conv=>whnf) | (refine ifB_i (fun _=>?_) (fun _=>?_)<;>conv=>whnf) | ((first | refine ixN (enc := eL) default (by omega) ?_ | refine ⟨_, impl_line (act.getD i default), ?_⟩ | refine w64 (by omega) (by omega) ?_);conv=>whnf)
      · rename_i h
        exact rB (by symm; simp only [actOk, Bool.and_eq_false_iff]; exact .inl (.inl (all_not default (j := i) (by omega) (by simpa using h))))
      · rename_i h k
        have k : (act.getD i default).Kind = 1 := by simpa using k
        rw [if_pos k] at ts
        refine ⟨i + 1, n + 1, ⟨by omega, by omega, by omega, fun j hj => ?_⟩, by simp only; omega, ?_⟩
        · by_cases h' : j < i
          · exact ho j h'
          · obtain rfl : j = i := by omega
            simpa using h
        · repeat' (first | exact True.intro | ((conv => whnf); first | exact True.intro | refine ⟨by rfl, ?_⟩ | refine ⟨?_, ?_⟩))
      · rename_i h k
        have k : ¬ (act.getD i default).Kind = 1 := by simpa using k
        rw [if_neg k] at ts
        refine ⟨i + 1, n, ⟨by omega, by omega, by omega, fun j hj => ?_⟩, by simp only; omega, ?_⟩
        · by_cases h' : j < i
          · exact ho j h'
          · obtain rfl : j = i := by omega
            simpa using h
        · repeat' (first | exact True.intro | ((conv => whnf); first | exact True.intro | refine ⟨by rfl, ?_⟩ | refine ⟨?_, ?_⟩))
    · have e : i = act.length := by omega
      subst e
      rw [List.take_length] at ht
      have hall : act.all Line.ok = true := all_get default ho
      (repeat' first | ((first|refine sN ?_|refine Dr.cons ?_|(refine Dr.nil ?_;refine drawIf (by kernel_rfl) ?_)|refine vN rfl ?_|refine Vc.draw rfl (by kernel_rfl) ?_|refine mkSl (by omega) (by omega) ?_);conv=>whnf))
      all_goals (refine ifB_i (fun g1 => ?_) (fun g1 => ?_) <;> conv => whnf)
      all_goals (repeat' first | ((first|refine sN ?_|refine Dr.cons ?_|(refine Dr.nil ?_;refine drawIf (by kernel_rfl) ?_)|refine vN rfl ?_|refine Vc.draw rfl (by kernel_rfl) ?_|refine mkSl (by omega) (by omega) ?_);conv=>whnf))
      all_goals exact rB (by rw [Bool.eq_iff_iff]; simp only [actOk, hall, Bool.true_and]; simp at g1; simp [← ht]; omega)
end Cc
end
section
namespace Go.Proofs
open Go.Shelf
def Tryz.lays169_ren : Go.Shelf.Ren := ⟨fun | 169 => 372 | n => n, fun | 70 => 389 | 9 => 9 | 0 => 0 | 72 => 391 | 37 => 22 | 127 => 410 | 3 => 3 | 5 => 5 | n => n, fun | n => n⟩
theorem Tryz.lays169 : Go.Proofs.Lays.n169 Tryz.prog Tryz.lays169_ren := {
  mixed := by kernel_rfl
  f169 := Tryz.func372.trans (congrArg some (by kernel_rfl))
  t0 := Tryz.underlying0
  a0 := Tryz.isAgg0
  z0 := Tryz.sizeOf0
  v0 := Tryz.zeroValue0
  t3 := Tryz.underlying3
  a3 := Tryz.isAgg3
  z3 := Tryz.sizeOf3
  v3 := Tryz.zeroValue3
  t9 := Tryz.underlying9
  a9 := Tryz.isAgg9
  z9 := Tryz.sizeOf9
  v9 := Tryz.zeroValue9
  t37 := Tryz.underlying22
  a37 := Tryz.isAgg22
  z37 := Tryz.sizeOf22
  v37 := Tryz.zeroValue22
  t70 := Tryz.underlying389
  a70 := Tryz.isAgg389
  z70 := Tryz.sizeOf389
  v70 := Tryz.zeroValue389
  t72 := Tryz.underlying391
  a72 := Tryz.isAgg391
  z72 := Tryz.sizeOf391
  v72 := Tryz.zeroValue391
  t127 := Tryz.underlying410
  a127 := Tryz.isAgg410
  z127 := Tryz.sizeOf410
  v127 := Tryz.zeroValue410 }
theorem Tryz.Builder_Extra_169 : Builder.Extra Tryz.prog Tryz.lays169_ren := {
  sizeBuilder := by kernel_rfl
  liesBuilder := by kernel_rfl
  t5 := Tryz.underlying5
  a5 := Tryz.isAgg5
  z5 := Tryz.sizeOf5
  v5 := Tryz.zeroValue5
  infoByte := by kernel_rfl
  cellsByte := by kernel_rfl
  sizeByte := by kernel_rfl
  neB5 := by decide }
open Go.RowKit in
theorem Tryz.Builder_String (B b : Nat) (l : List UInt8) (w : World) (h : Lib.IsBuilder 391 5 B b (Lib.byteCells l) w) (h0 : l ≠ []) :
    Calls Tryz.prog 372 #[.pointer (some ⟨b, 0, none⟩)] w fun e w' => e = .returned (.string ⟨l.toArray⟩) ∧ Below B w w' := Any.Builder_String Tryz.lays169 Tryz.Builder_Extra_169 B b l w h h0
open Go.RowKit in
theorem Tryz.Builder_String_empty (B b : Nat) (w : World) (h : Lib.IsBuilder 391 5 B b [] w) (hBw : B ≤ w.heap.size) :
    Calls Tryz.prog 372 #[.pointer (some ⟨b, 0, none⟩)] w fun e w' => e = .returned (.string ⟨#[]⟩) ∧ Below B w w' := Any.Builder_String_empty Tryz.lays169 Tryz.Builder_Extra_169 B b w h hBw
open Go.RowKit in
theorem Tryz.Builder_String_any (B b : Nat) (l : List UInt8) (w : World) (h : Lib.IsBuilder 391 5 B b (Lib.byteCells l) w) (hBw : B ≤ w.heap.size) :
    Calls Tryz.prog 372 #[.pointer (some ⟨b, 0, none⟩)] w fun e w' => e = .returned (.string ⟨l.toArray⟩) ∧ Below B w w' := Any.Builder_String_any Tryz.lays169 Tryz.Builder_Extra_169 B b l w h hBw
open Go.RowKit in
theorem Tryz.Builder_String_f (B b : Nat) (l : List UInt8) (w : World) (h : Lib.IsBuilderF 391 5 B b (Lib.byteCells l) w) (h0 : l ≠ []) :
    Calls Tryz.prog 372 #[.pointer (some ⟨b, 0, none⟩)] w fun e w' => e = .returned (.string ⟨l.toArray⟩) ∧ (Lib.IsBuilderF 391 5 B b (Lib.byteCells l) w' ∧ Below B w w') := Any.Builder_String_f Tryz.lays169 Tryz.Builder_Extra_169 B b l w h h0
open Go.RowKit in
theorem Tryz.Builder_String_empty_f (B b : Nat) (w : World) (h : Lib.IsBuilderF 391 5 B b [] w) (hBw : B ≤ w.heap.size) :
    Calls Tryz.prog 372 #[.pointer (some ⟨b, 0, none⟩)] w fun e w' => e = .returned (.string ⟨#[]⟩) ∧ (Lib.IsBuilderF 391 5 B b [] w' ∧ Below B w w') := Any.Builder_String_empty_f Tryz.lays169 Tryz.Builder_Extra_169 B b w h hBw
open Go.RowKit in
theorem Tryz.Builder_String_any_f (B b : Nat) (l : List UInt8) (w : World) (h : Lib.IsBuilderF 391 5 B b (Lib.byteCells l) w) (hBw : B ≤ w.heap.size) :
    Calls Tryz.prog 372 #[.pointer (some ⟨b, 0, none⟩)] w fun e w' => e = .returned (.string ⟨l.toArray⟩) ∧ (Lib.IsBuilderF 391 5 B b (Lib.byteCells l) w' ∧ Below B w w') := Any.Builder_String_any_f Tryz.lays169 Tryz.Builder_Extra_169 B b l w h hBw
open Go.RowKit in
theorem Tryz.Builder_String_k (B b : Nat) (l : List UInt8) (w : World) (h : Lib.IsBuilderF 391 5 B b (Lib.byteCells l) w) (h0 : l ≠ []) :
    Calls Tryz.prog 372 #[.pointer (some ⟨b, 0, none⟩)] w fun e w' => e = .returned (.string ⟨l.toArray⟩) ∧ (Lib.IsBuilderF 391 5 B b (Lib.byteCells l) w' ∧ Below B w w' ∧ Lib.OthersKept 5 (some b) w w') := Any.Builder_String_k Tryz.lays169 Tryz.Builder_Extra_169 B b l w h h0
open Go.RowKit in
theorem Tryz.Builder_String_empty_k (B b : Nat) (w : World) (h : Lib.IsBuilderF 391 5 B b [] w) (hBw : B ≤ w.heap.size) :
    Calls Tryz.prog 372 #[.pointer (some ⟨b, 0, none⟩)] w fun e w' => e = .returned (.string ⟨#[]⟩) ∧ (Lib.IsBuilderF 391 5 B b [] w' ∧ Below B w w' ∧ Lib.OthersKept 5 (some b) w w') := Any.Builder_String_empty_k Tryz.lays169 Tryz.Builder_Extra_169 B b w h hBw
open Go.RowKit in
theorem Tryz.Builder_String_any_k (B b : Nat) (l : List UInt8) (w : World) (h : Lib.IsBuilderF 391 5 B b (Lib.byteCells l) w) (hBw : B ≤ w.heap.size) :
    Calls Tryz.prog 372 #[.pointer (some ⟨b, 0, none⟩)] w fun e w' => e = .returned (.string ⟨l.toArray⟩) ∧ (Lib.IsBuilderF 391 5 B b (Lib.byteCells l) w' ∧ Below B w w' ∧ Lib.OthersKept 5 (some b) w w') := Any.Builder_String_any_k Tryz.lays169 Tryz.Builder_Extra_169 B b l w h hBw
def Tryz.lays317_ren : Go.Shelf.Ren := ⟨fun | 317 => 408 | n => n, fun | 3 => 3 | 46 => 429 | n => n, fun | n => n⟩
theorem Tryz.lays317 : Go.Proofs.Lays.n317 Tryz.prog Tryz.lays317_ren := {
  mixed := by kernel_rfl
  f317 := Tryz.func408.trans (congrArg some (by kernel_rfl))
  t3 := Tryz.underlying3
  a3 := Tryz.isAgg3
  z3 := Tryz.sizeOf3
  v3 := Tryz.zeroValue3
  t46 := Tryz.underlying429
  a46 := Tryz.isAgg429
  z46 := Tryz.sizeOf429
  v46 := Tryz.zeroValue429 }
open Go.Lib in
theorem Tryz.internal_strconv_log10Pow2 (x : Nat) (h : x ≤ 64) (w : World) :
    Calls Tryz.prog 408 #[.int .i64 x] w fun e w' => e = .returned (.int .i64 (Lib.l10 x)) ∧ w' = w := Any.internal_strconv_log10Pow2 Tryz.lays317 x h w
def Tryz.lays318_ren : Go.Shelf.Ren := ⟨fun | 318 => 410 | n => n, fun | 3 => 3 | 4 => 4 | n => n, fun | n => n⟩
theorem Tryz.lays318 : Go.Proofs.Lays.n318 Tryz.prog Tryz.lays318_ren := {
  mixed := by kernel_rfl
  f318 := Tryz.func410.trans (congrArg some (by kernel_rfl))
  t3 := Tryz.underlying3
  a3 := Tryz.isAgg3
  z3 := Tryz.sizeOf3
  v3 := Tryz.zeroValue3
  t4 := Tryz.underlying4
  a4 := Tryz.isAgg4
  z4 := Tryz.sizeOf4
  v4 := Tryz.zeroValue4 }
open Go.Lib in
theorem Tryz.internal_strconv_bool2_int (b : Bool) (w : World) :
    Calls Tryz.prog 410 #[.bool b] w fun e w' => e = .returned (.int .i64 (if b then 1 else 0)) ∧ w' = w := Any.internal_strconv_bool2_int Tryz.lays318 b w
def Tryz.lays283_ren : Go.Shelf.Ren := ⟨fun | 283 => 404 | n => n, fun | 3 => 3 | 9 => 9 | 4 => 4 | n => n, fun | n => n⟩
theorem Tryz.lays283 : Go.Proofs.Lays.n283 Tryz.prog Tryz.lays283_ren := {
  mixed := by kernel_rfl
  f283 := Tryz.func404.trans (congrArg some (by kernel_rfl))
  t3 := Tryz.underlying3
  a3 := Tryz.isAgg3
  z3 := Tryz.sizeOf3
  v3 := Tryz.zeroValue3
  t4 := Tryz.underlying4
  a4 := Tryz.isAgg4
  z4 := Tryz.sizeOf4
  v4 := Tryz.zeroValue4
  t9 := Tryz.underlying9
  a9 := Tryz.isAgg9
  z9 := Tryz.sizeOf9
  v9 := Tryz.zeroValue9 }
open Go.Lib in
theorem Tryz.internal_strconv_small (i : Nat) (h : i < 100) (w : World) :
    Calls Tryz.prog 404 #[.int .i64 i] w fun e w' => e = .returned (.string ⟨(Lib.decDigits i).toArray⟩) ∧ w' = w := Any.internal_strconv_small Tryz.lays283 i h w
def Tryz.laysM284_ren : Go.Shelf.Ren := ⟨fun | 284 => 405 | 129 => 409 | 317 => 408 | 318 => 410 | n => n, fun | 53 => 420 | 3 => 3 | 212 => 426 | 0 => 0 | 4 => 4 | 46 => 429 | 5 => 5 | 9 => 9 | n => n, fun | 17 => 0 | n => n⟩
theorem Tryz.laysM284 : Go.Proofs.LaysM.n284 Tryz.prog Tryz.laysM284_ren := {
  mixed := by kernel_rfl
  f129 := Tryz.func409.trans (congrArg some (by kernel_rfl))
  f284 := Tryz.func405.trans (congrArg some (by kernel_rfl))
  f317 := Tryz.func408.trans (congrArg some (by kernel_rfl))
  f318 := Tryz.func410.trans (congrArg some (by kernel_rfl))
  t0 := Tryz.underlying0
  a0 := Tryz.isAgg0
  z0 := Tryz.sizeOf0
  v0 := Tryz.zeroValue0
  t3 := Tryz.underlying3
  a3 := Tryz.isAgg3
  z3 := Tryz.sizeOf3
  v3 := Tryz.zeroValue3
  t4 := Tryz.underlying4
  a4 := Tryz.isAgg4
  z4 := Tryz.sizeOf4
  v4 := Tryz.zeroValue4
  t5 := Tryz.underlying5
  a5 := Tryz.isAgg5
  z5 := Tryz.sizeOf5
  v5 := Tryz.zeroValue5
  t9 := Tryz.underlying9
  a9 := Tryz.isAgg9
  z9 := Tryz.sizeOf9
  v9 := Tryz.zeroValue9
  t46 := Tryz.underlying429
  a46 := Tryz.isAgg429
  z46 := Tryz.sizeOf429
  v46 := Tryz.zeroValue429
  t53 := Tryz.underlying420
  a53 := Tryz.isAgg420
  z53 := Tryz.sizeOf420
  v53 := Tryz.zeroValue420
  t212 := Tryz.underlying426
  a212 := Tryz.isAgg426
  z212 := Tryz.sizeOf426
  v212 := Tryz.zeroValue426
  g17 := by kernel_rfl
  i0 := by kernel_rfl
  i3 := by kernel_rfl
  i4 := by kernel_rfl
  i5 := by kernel_rfl
  i9 := by kernel_rfl
  i46 := by kernel_rfl
  i53 := by kernel_rfl
  i212 := by kernel_rfl
  m17 := by kernel_rfl }
open Go.Lib in
theorem Tryz.internal_strconv_numDigits (u : Nat) (h1 : 1 ≤ u) (h2 : u < 18446744073709551616) (w : World) (htab : Lib.TabIs Tryz.prog w "internal/strconv.uint64pow10" .u64 Lib.pow10Tab) :
    Calls Tryz.prog 405 #[.int .u64 u] w fun e w' => e = .returned (.int .i64 (Lib.nDigits u)) ∧ w' = w := Any.internal_strconv_numDigits Tryz.laysM284 u h1 h2 w htab
def Tryz.lays285_ren : Go.Shelf.Ren := ⟨fun | 285 => 406 | n => n, fun | 37 => 22 | 53 => 420 | 3 => 3 | 4 => 4 | 51 => 427 | 9 => 9 | 5 => 5 | 0 => 0 | n => n, fun | n => n⟩
theorem Tryz.lays285 : Go.Proofs.Lays.n285 Tryz.prog Tryz.lays285_ren := {
  mixed := by kernel_rfl
  f285 := Tryz.func406.trans (congrArg some (by kernel_rfl))
  t0 := Tryz.underlying0
  a0 := Tryz.isAgg0
  z0 := Tryz.sizeOf0
  v0 := Tryz.zeroValue0
  t3 := Tryz.underlying3
  a3 := Tryz.isAgg3
  z3 := Tryz.sizeOf3
  v3 := Tryz.zeroValue3
  t4 := Tryz.underlying4
  a4 := Tryz.isAgg4
  z4 := Tryz.sizeOf4
  v4 := Tryz.zeroValue4
  t5 := Tryz.underlying5
  a5 := Tryz.isAgg5
  z5 := Tryz.sizeOf5
  v5 := Tryz.zeroValue5
  t9 := Tryz.underlying9
  a9 := Tryz.isAgg9
  z9 := Tryz.sizeOf9
  v9 := Tryz.zeroValue9
  t37 := Tryz.underlying22
  a37 := Tryz.isAgg22
  z37 := Tryz.sizeOf22
  v37 := Tryz.zeroValue22
  t51 := Tryz.underlying427
  a51 := Tryz.isAgg427
  z51 := Tryz.sizeOf427
  v51 := Tryz.zeroValue427
  t53 := Tryz.underlying420
  a53 := Tryz.isAgg420
  z53 := Tryz.sizeOf420
  v53 := Tryz.zeroValue420 }
open Go.RowKit Go.Sort Go.Lib in
theorem Tryz.internal_strconv_formatBase10 (blk off cap : Nat) (u : Nat) (d : Array UInt8) (w : World) (hH : Holds (fun (b : UInt8) => Value.int .u8 (b.toNat : Int)) w blk off d) (hu : u < 10 ^ d.size) (hu64 : u < 18446744073709551616) (hsz : d.size < 4611686018427387904) :
    Calls Tryz.prog 406 #[.slice (some ⟨blk, off, none⟩) d.size cap, .int .u64 u] w fun e w' =>
      e = .returned (.tuple #[]) ∧ ∃ (n v' : Nat) (dk : Array UInt8), w' = (putRow (fun (b : UInt8) => Value.int .u8 (b.toNat : Int)) w blk off dk).drewN n ∧ FmtInv d.size u 0 v' dk := Any.internal_strconv_formatBase10 Tryz.lays285 blk off cap u d w hH hu hu64 hsz
def Tryz.laysM246_ren : Go.Shelf.Ren := ⟨fun | 246 => 403 | 283 => 404 | 284 => 405 | 285 => 406 | 286 => 407 | 129 => 409 | 317 => 408 | 318 => 410 | 319 => 411 | 320 => 412 | 337 => 413 | 338 => 414 | n => n, fun | 2 => 2 | 3 => 3 | 9 => 9 | 4 => 4 | 171 => 419 | 0 => 0 | 53 => 420 | 37 => 22 | 5 => 5 | 173 => 423 | 212 => 426 | 51 => 427 | 20 => 20 | 213 => 428 | 46 => 429 | 232 => 432 | 233 => 433 | n => n, fun | 17 => 0 | 18 => 1 | 19 => 2 | n => n⟩
theorem Tryz.laysM246 : Go.Proofs.LaysM.n246 Tryz.prog Tryz.laysM246_ren := {
  mixed := by kernel_rfl
  f129 := Tryz.func409.trans (congrArg some (by kernel_rfl))
  f246 := Tryz.func403.trans (congrArg some (by kernel_rfl))
  f283 := Tryz.func404.trans (congrArg some (by kernel_rfl))
  f284 := Tryz.func405.trans (congrArg some (by kernel_rfl))
  f285 := Tryz.func406.trans (congrArg some (by kernel_rfl))
  f286 := Tryz.func407.trans (congrArg some (by kernel_rfl))
  f317 := Tryz.func408.trans (congrArg some (by kernel_rfl))
  f318 := Tryz.func410.trans (congrArg some (by kernel_rfl))
  f319 := Tryz.func411.trans (congrArg some (by kernel_rfl))
  f320 := Tryz.func412.trans (congrArg some (by kernel_rfl))
  f337 := Tryz.func413.trans (congrArg some (by kernel_rfl))
  f338 := Tryz.func414.trans (congrArg some (by kernel_rfl))
  t0 := Tryz.underlying0
  a0 := Tryz.isAgg0
  z0 := Tryz.sizeOf0
  v0 := Tryz.zeroValue0
  t2 := Tryz.underlying2
  a2 := Tryz.isAgg2
  z2 := Tryz.sizeOf2
  v2 := Tryz.zeroValue2
  t3 := Tryz.underlying3
  a3 := Tryz.isAgg3
  z3 := Tryz.sizeOf3
  v3 := Tryz.zeroValue3
  t4 := Tryz.underlying4
  a4 := Tryz.isAgg4
  z4 := Tryz.sizeOf4
  v4 := Tryz.zeroValue4
  t5 := Tryz.underlying5
  a5 := Tryz.isAgg5
  z5 := Tryz.sizeOf5
  v5 := Tryz.zeroValue5
  t9 := Tryz.underlying9
  a9 := Tryz.isAgg9
  z9 := Tryz.sizeOf9
  v9 := Tryz.zeroValue9
  t20 := Tryz.underlying20
  a20 := Tryz.isAgg20
  z20 := Tryz.sizeOf20
  v20 := Tryz.zeroValue20
  t37 := Tryz.underlying22
  a37 := Tryz.isAgg22
  z37 := Tryz.sizeOf22
  v37 := Tryz.zeroValue22
  t46 := Tryz.underlying429
  a46 := Tryz.isAgg429
  z46 := Tryz.sizeOf429
  v46 := Tryz.zeroValue429
  t51 := Tryz.underlying427
  a51 := Tryz.isAgg427
  z51 := Tryz.sizeOf427
  v51 := Tryz.zeroValue427
  t53 := Tryz.underlying420
  a53 := Tryz.isAgg420
  z53 := Tryz.sizeOf420
  v53 := Tryz.zeroValue420
  t171 := Tryz.underlying419
  a171 := Tryz.isAgg419
  z171 := Tryz.sizeOf419
  v171 := Tryz.zeroValue419
  t173 := Tryz.underlying423
  a173 := Tryz.isAgg423
  z173 := Tryz.sizeOf423
  v173 := Tryz.zeroValue423
  t212 := Tryz.underlying426
  a212 := Tryz.isAgg426
  z212 := Tryz.sizeOf426
  v212 := Tryz.zeroValue426
  t213 := Tryz.underlying428
  a213 := Tryz.isAgg428
  z213 := Tryz.sizeOf428
  t232 := Tryz.underlying432
  a232 := Tryz.isAgg432
  z232 := Tryz.sizeOf432
  v232 := Tryz.zeroValue432
  t233 := Tryz.underlying433
  a233 := Tryz.isAgg433
  z233 := Tryz.sizeOf433
  v233 := Tryz.zeroValue433
  g17 := by kernel_rfl
  g18 := by kernel_rfl
  g19 := by kernel_rfl
  i0 := by kernel_rfl
  i2 := by kernel_rfl
  i3 := by kernel_rfl
  i4 := by kernel_rfl
  i5 := by kernel_rfl
  i9 := by kernel_rfl
  i20 := by kernel_rfl
  i37 := by kernel_rfl
  i46 := by kernel_rfl
  i51 := by kernel_rfl
  i53 := by kernel_rfl
  i171 := by kernel_rfl
  i173 := by kernel_rfl
  i212 := by kernel_rfl
  i232 := by kernel_rfl
  i233 := by kernel_rfl
  m17 := by kernel_rfl
  m18 := by kernel_rfl
  m19 := by kernel_rfl }
open Go.RowKit Go.Sort Go.Lib in
theorem Tryz.internal_strconv_FormatInt_10 (n : Int) (h0 : -9223372036854775808 ≤ n) (h1 : n ≤ 9223372036854775807) (w : World) (htab : Lib.TabIs Tryz.prog w "internal/strconv.uint64pow10" .u64 Lib.pow10Tab) :
    Calls Tryz.prog 403 #[.int .i64 n, .int .i64 10] w fun e w' => e = .returned (.string ⟨(Lib.itoa n).toArray⟩) ∧ ∃ k os, w' = grow (w.drewN k) os := Any.internal_strconv_FormatInt_10 Tryz.laysM246 n h0 h1 w htab
def Tryz.lays246_ren : Go.Shelf.Ren := ⟨fun | 246 => 403 | 283 => 404 | 284 => 405 | 285 => 406 | 286 => 407 | 129 => 409 | 317 => 408 | 318 => 410 | 319 => 411 | 320 => 412 | 337 => 413 | 338 => 414 | n => n, fun | 2 => 2 | 3 => 3 | 9 => 9 | 4 => 4 | 171 => 419 | 0 => 0 | 53 => 420 | 37 => 22 | 5 => 5 | 173 => 423 | 212 => 426 | 51 => 427 | 20 => 20 | 213 => 428 | 46 => 429 | 232 => 432 | 233 => 433 | n => n, fun | 17 => 0 | 18 => 1 | 19 => 2 | n => n⟩
theorem Tryz.lays246 : Go.Proofs.Lays.n246 Tryz.prog Tryz.lays246_ren := {
  mixed := by kernel_rfl
  f129 := Tryz.func409.trans (congrArg some (by kernel_rfl))
  f246 := Tryz.func403.trans (congrArg some (by kernel_rfl))
  f283 := Tryz.func404.trans (congrArg some (by kernel_rfl))
  f284 := Tryz.func405.trans (congrArg some (by kernel_rfl))
  f285 := Tryz.func406.trans (congrArg some (by kernel_rfl))
  f286 := Tryz.func407.trans (congrArg some (by kernel_rfl))
  f317 := Tryz.func408.trans (congrArg some (by kernel_rfl))
  f318 := Tryz.func410.trans (congrArg some (by kernel_rfl))
  f319 := Tryz.func411.trans (congrArg some (by kernel_rfl))
  f320 := Tryz.func412.trans (congrArg some (by kernel_rfl))
  f337 := Tryz.func413.trans (congrArg some (by kernel_rfl))
  f338 := Tryz.func414.trans (congrArg some (by kernel_rfl))
  t0 := Tryz.underlying0
  a0 := Tryz.isAgg0
  z0 := Tryz.sizeOf0
  v0 := Tryz.zeroValue0
  t2 := Tryz.underlying2
  a2 := Tryz.isAgg2
  z2 := Tryz.sizeOf2
  v2 := Tryz.zeroValue2
  t3 := Tryz.underlying3
  a3 := Tryz.isAgg3
  z3 := Tryz.sizeOf3
  v3 := Tryz.zeroValue3
  t4 := Tryz.underlying4
  a4 := Tryz.isAgg4
  z4 := Tryz.sizeOf4
  v4 := Tryz.zeroValue4
  t5 := Tryz.underlying5
  a5 := Tryz.isAgg5
  z5 := Tryz.sizeOf5
  v5 := Tryz.zeroValue5
  t9 := Tryz.underlying9
  a9 := Tryz.isAgg9
  z9 := Tryz.sizeOf9
  v9 := Tryz.zeroValue9
  t20 := Tryz.underlying20
  a20 := Tryz.isAgg20
  z20 := Tryz.sizeOf20
  v20 := Tryz.zeroValue20
  t37 := Tryz.underlying22
  a37 := Tryz.isAgg22
  z37 := Tryz.sizeOf22
  v37 := Tryz.zeroValue22
  t46 := Tryz.underlying429
  a46 := Tryz.isAgg429
  z46 := Tryz.sizeOf429
  v46 := Tryz.zeroValue429
  t51 := Tryz.underlying427
  a51 := Tryz.isAgg427
  z51 := Tryz.sizeOf427
  v51 := Tryz.zeroValue427
  t53 := Tryz.underlying420
  a53 := Tryz.isAgg420
  z53 := Tryz.sizeOf420
  v53 := Tryz.zeroValue420
  t171 := Tryz.underlying419
  a171 := Tryz.isAgg419
  z171 := Tryz.sizeOf419
  v171 := Tryz.zeroValue419
  t173 := Tryz.underlying423
  a173 := Tryz.isAgg423
  z173 := Tryz.sizeOf423
  v173 := Tryz.zeroValue423
  t212 := Tryz.underlying426
  a212 := Tryz.isAgg426
  z212 := Tryz.sizeOf426
  v212 := Tryz.zeroValue426
  t213 := Tryz.underlying428
  a213 := Tryz.isAgg428
  z213 := Tryz.sizeOf428
  t232 := Tryz.underlying432
  a232 := Tryz.isAgg432
  z232 := Tryz.sizeOf432
  v232 := Tryz.zeroValue432
  t233 := Tryz.underlying433
  a233 := Tryz.isAgg433
  z233 := Tryz.sizeOf433
  v233 := Tryz.zeroValue433
  g17 := by kernel_rfl
  g18 := by kernel_rfl
  g19 := by kernel_rfl }
open Go.RowKit Go.Sort Go.Lib in
theorem Tryz.internal_strconv_FormatInt_10_small (i : Nat) (hi : i < 100) (w : World) :
    Calls Tryz.prog 403 #[.int .i64 i, .int .i64 10] w fun e w' => e = .returned (.string ⟨(Lib.decDigits i).toArray⟩) ∧ w' = w := Any.internal_strconv_FormatInt_10_small Tryz.lays246 i hi w
def Tryz.laysM243_ren : Go.Shelf.Ren := ⟨fun | 243 => 393 | 246 => 403 | 283 => 404 | 284 => 405 | 285 => 406 | 286 => 407 | 129 => 409 | 317 => 408 | 318 => 410 | 319 => 411 | 320 => 412 | 337 => 413 | 338 => 414 | n => n, fun | 3 => 3 | 9 => 9 | 2 => 2 | 4 => 4 | 171 => 419 | 0 => 0 | 53 => 420 | 37 => 22 | 5 => 5 | 173 => 423 | 212 => 426 | 51 => 427 | 20 => 20 | 213 => 428 | 46 => 429 | 232 => 432 | 233 => 433 | n => n, fun | 17 => 0 | 18 => 1 | 19 => 2 | n => n⟩
theorem Tryz.laysM243 : Go.Proofs.LaysM.n243 Tryz.prog Tryz.laysM243_ren := {
  mixed := by kernel_rfl
  f129 := Tryz.func409.trans (congrArg some (by kernel_rfl))
  f243 := Tryz.func393.trans (congrArg some (by kernel_rfl))
  f246 := Tryz.func403.trans (congrArg some (by kernel_rfl))
  f283 := Tryz.func404.trans (congrArg some (by kernel_rfl))
  f284 := Tryz.func405.trans (congrArg some (by kernel_rfl))
  f285 := Tryz.func406.trans (congrArg some (by kernel_rfl))
  f286 := Tryz.func407.trans (congrArg some (by kernel_rfl))
  f317 := Tryz.func408.trans (congrArg some (by kernel_rfl))
  f318 := Tryz.func410.trans (congrArg some (by kernel_rfl))
  f319 := Tryz.func411.trans (congrArg some (by kernel_rfl))
  f320 := Tryz.func412.trans (congrArg some (by kernel_rfl))
  f337 := Tryz.func413.trans (congrArg some (by kernel_rfl))
  f338 := Tryz.func414.trans (congrArg some (by kernel_rfl))
  t0 := Tryz.underlying0
  a0 := Tryz.isAgg0
  z0 := Tryz.sizeOf0
  v0 := Tryz.zeroValue0
  t2 := Tryz.underlying2
  a2 := Tryz.isAgg2
  z2 := Tryz.sizeOf2
  v2 := Tryz.zeroValue2
  t3 := Tryz.underlying3
  a3 := Tryz.isAgg3
  z3 := Tryz.sizeOf3
  v3 := Tryz.zeroValue3
  t4 := Tryz.underlying4
  a4 := Tryz.isAgg4
  z4 := Tryz.sizeOf4
  v4 := Tryz.zeroValue4
  t5 := Tryz.underlying5
  a5 := Tryz.isAgg5
  z5 := Tryz.sizeOf5
  v5 := Tryz.zeroValue5
  t9 := Tryz.underlying9
  a9 := Tryz.isAgg9
  z9 := Tryz.sizeOf9
  v9 := Tryz.zeroValue9
  t20 := Tryz.underlying20
  a20 := Tryz.isAgg20
  z20 := Tryz.sizeOf20
  v20 := Tryz.zeroValue20
  t37 := Tryz.underlying22
  a37 := Tryz.isAgg22
  z37 := Tryz.sizeOf22
  v37 := Tryz.zeroValue22
  t46 := Tryz.underlying429
  a46 := Tryz.isAgg429
  z46 := Tryz.sizeOf429
  v46 := Tryz.zeroValue429
  t51 := Tryz.underlying427
  a51 := Tryz.isAgg427
  z51 := Tryz.sizeOf427
  v51 := Tryz.zeroValue427
  t53 := Tryz.underlying420
  a53 := Tryz.isAgg420
  z53 := Tryz.sizeOf420
  v53 := Tryz.zeroValue420
  t171 := Tryz.underlying419
  a171 := Tryz.isAgg419
  z171 := Tryz.sizeOf419
  v171 := Tryz.zeroValue419
  t173 := Tryz.underlying423
  a173 := Tryz.isAgg423
  z173 := Tryz.sizeOf423
  v173 := Tryz.zeroValue423
  t212 := Tryz.underlying426
  a212 := Tryz.isAgg426
  z212 := Tryz.sizeOf426
  v212 := Tryz.zeroValue426
  t213 := Tryz.underlying428
  a213 := Tryz.isAgg428
  z213 := Tryz.sizeOf428
  t232 := Tryz.underlying432
  a232 := Tryz.isAgg432
  z232 := Tryz.sizeOf432
  v232 := Tryz.zeroValue432
  t233 := Tryz.underlying433
  a233 := Tryz.isAgg433
  z233 := Tryz.sizeOf433
  v233 := Tryz.zeroValue433
  g17 := by kernel_rfl
  g18 := by kernel_rfl
  g19 := by kernel_rfl
  i0 := by kernel_rfl
  i2 := by kernel_rfl
  i3 := by kernel_rfl
  i4 := by kernel_rfl
  i5 := by kernel_rfl
  i9 := by kernel_rfl
  i20 := by kernel_rfl
  i37 := by kernel_rfl
  i46 := by kernel_rfl
  i51 := by kernel_rfl
  i53 := by kernel_rfl
  i171 := by kernel_rfl
  i173 := by kernel_rfl
  i212 := by kernel_rfl
  i232 := by kernel_rfl
  i233 := by kernel_rfl
  m17 := by kernel_rfl
  m18 := by kernel_rfl
  m19 := by kernel_rfl }
open Go.RowKit Go.Sort Go.Lib in
theorem Tryz.internal_strconv_Itoa (n : Int) (h0 : -9223372036854775808 ≤ n) (h1 : n ≤ 9223372036854775807) (w : World) (htab : Lib.TabIs Tryz.prog w "internal/strconv.uint64pow10" .u64 Lib.pow10Tab) :
    Calls Tryz.prog 393 #[.int .i64 n] w fun e w' => e = .returned (.string ⟨(Lib.itoa n).toArray⟩) ∧ ∃ k os, w' = grow (w.drewN k) os := Any.internal_strconv_Itoa Tryz.laysM243 n h0 h1 w htab
def Tryz.lays243_ren : Go.Shelf.Ren := ⟨fun | 243 => 393 | 246 => 403 | 283 => 404 | 284 => 405 | 285 => 406 | 286 => 407 | 129 => 409 | 317 => 408 | 318 => 410 | 319 => 411 | 320 => 412 | 337 => 413 | 338 => 414 | n => n, fun | 3 => 3 | 9 => 9 | 2 => 2 | 4 => 4 | 171 => 419 | 0 => 0 | 53 => 420 | 37 => 22 | 5 => 5 | 173 => 423 | 212 => 426 | 51 => 427 | 20 => 20 | 213 => 428 | 46 => 429 | 232 => 432 | 233 => 433 | n => n, fun | 17 => 0 | 18 => 1 | 19 => 2 | n => n⟩
theorem Tryz.lays243 : Go.Proofs.Lays.n243 Tryz.prog Tryz.lays243_ren := {
  mixed := by kernel_rfl
  f129 := Tryz.func409.trans (congrArg some (by kernel_rfl))
  f243 := Tryz.func393.trans (congrArg some (by kernel_rfl))
  f246 := Tryz.func403.trans (congrArg some (by kernel_rfl))
  f283 := Tryz.func404.trans (congrArg some (by kernel_rfl))
  f284 := Tryz.func405.trans (congrArg some (by kernel_rfl))
  f285 := Tryz.func406.trans (congrArg some (by kernel_rfl))
  f286 := Tryz.func407.trans (congrArg some (by kernel_rfl))
  f317 := Tryz.func408.trans (congrArg some (by kernel_rfl))
  f318 := Tryz.func410.trans (congrArg some (by kernel_rfl))
  f319 := Tryz.func411.trans (congrArg some (by kernel_rfl))
  f320 := Tryz.func412.trans (congrArg some (by kernel_rfl))
  f337 := Tryz.func413.trans (congrArg some (by kernel_rfl))
  f338 := Tryz.func414.trans (congrArg some (by kernel_rfl))
  t0 := Tryz.underlying0
  a0 := Tryz.isAgg0
  z0 := Tryz.sizeOf0
  v0 := Tryz.zeroValue0
  t2 := Tryz.underlying2
  a2 := Tryz.isAgg2
  z2 := Tryz.sizeOf2
  v2 := Tryz.zeroValue2
  t3 := Tryz.underlying3
  a3 := Tryz.isAgg3
  z3 := Tryz.sizeOf3
  v3 := Tryz.zeroValue3
  t4 := Tryz.underlying4
  a4 := Tryz.isAgg4
  z4 := Tryz.sizeOf4
  v4 := Tryz.zeroValue4
  t5 := Tryz.underlying5
  a5 := Tryz.isAgg5
  z5 := Tryz.sizeOf5
  v5 := Tryz.zeroValue5
  t9 := Tryz.underlying9
  a9 := Tryz.isAgg9
  z9 := Tryz.sizeOf9
  v9 := Tryz.zeroValue9
  t20 := Tryz.underlying20
  a20 := Tryz.isAgg20
  z20 := Tryz.sizeOf20
  v20 := Tryz.zeroValue20
  t37 := Tryz.underlying22
  a37 := Tryz.isAgg22
  z37 := Tryz.sizeOf22
  v37 := Tryz.zeroValue22
  t46 := Tryz.underlying429
  a46 := Tryz.isAgg429
  z46 := Tryz.sizeOf429
  v46 := Tryz.zeroValue429
  t51 := Tryz.underlying427
  a51 := Tryz.isAgg427
  z51 := Tryz.sizeOf427
  v51 := Tryz.zeroValue427
  t53 := Tryz.underlying420
  a53 := Tryz.isAgg420
  z53 := Tryz.sizeOf420
  v53 := Tryz.zeroValue420
  t171 := Tryz.underlying419
  a171 := Tryz.isAgg419
  z171 := Tryz.sizeOf419
  v171 := Tryz.zeroValue419
  t173 := Tryz.underlying423
  a173 := Tryz.isAgg423
  z173 := Tryz.sizeOf423
  v173 := Tryz.zeroValue423
  t212 := Tryz.underlying426
  a212 := Tryz.isAgg426
  z212 := Tryz.sizeOf426
  v212 := Tryz.zeroValue426
  t213 := Tryz.underlying428
  a213 := Tryz.isAgg428
  z213 := Tryz.sizeOf428
  t232 := Tryz.underlying432
  a232 := Tryz.isAgg432
  z232 := Tryz.sizeOf432
  v232 := Tryz.zeroValue432
  t233 := Tryz.underlying433
  a233 := Tryz.isAgg433
  z233 := Tryz.sizeOf433
  v233 := Tryz.zeroValue433
  g17 := by kernel_rfl
  g18 := by kernel_rfl
  g19 := by kernel_rfl }
open Go.RowKit Go.Sort Go.Lib in
theorem Tryz.internal_strconv_Itoa_small (i : Nat) (hi : i < 100) (w : World) :
    Calls Tryz.prog 393 #[.int .i64 i] w fun e w' => e = .returned (.string ⟨(Lib.decDigits i).toArray⟩) ∧ w' = w := Any.internal_strconv_Itoa_small Tryz.lays243 i hi w
def Tryz.laysM171_ren : Go.Shelf.Ren := ⟨fun | 171 => 371 | 243 => 393 | 246 => 403 | 283 => 404 | 284 => 405 | 285 => 406 | 286 => 407 | 129 => 409 | 317 => 408 | 318 => 410 | 319 => 411 | 320 => 412 | 337 => 413 | 338 => 414 | n => n, fun | 3 => 3 | 9 => 9 | 2 => 2 | 4 => 4 | 171 => 419 | 0 => 0 | 53 => 420 | 37 => 22 | 5 => 5 | 173 => 423 | 212 => 426 | 51 => 427 | 20 => 20 | 213 => 428 | 46 => 429 | 232 => 432 | 233 => 433 | n => n, fun | 17 => 0 | 18 => 1 | 19 => 2 | n => n⟩
theorem Tryz.laysM171 : Go.Proofs.LaysM.n171 Tryz.prog Tryz.laysM171_ren := {
  mixed := by kernel_rfl
  f129 := Tryz.func409.trans (congrArg some (by kernel_rfl))
  f171 := Tryz.func371.trans (congrArg some (by kernel_rfl))
  f243 := Tryz.func393.trans (congrArg some (by kernel_rfl))
  f246 := Tryz.func403.trans (congrArg some (by kernel_rfl))
  f283 := Tryz.func404.trans (congrArg some (by kernel_rfl))
  f284 := Tryz.func405.trans (congrArg some (by kernel_rfl))
  f285 := Tryz.func406.trans (congrArg some (by kernel_rfl))
  f286 := Tryz.func407.trans (congrArg some (by kernel_rfl))
  f317 := Tryz.func408.trans (congrArg some (by kernel_rfl))
  f318 := Tryz.func410.trans (congrArg some (by kernel_rfl))
  f319 := Tryz.func411.trans (congrArg some (by kernel_rfl))
  f320 := Tryz.func412.trans (congrArg some (by kernel_rfl))
  f337 := Tryz.func413.trans (congrArg some (by kernel_rfl))
  f338 := Tryz.func414.trans (congrArg some (by kernel_rfl))
  t0 := Tryz.underlying0
  a0 := Tryz.isAgg0
  z0 := Tryz.sizeOf0
  v0 := Tryz.zeroValue0
  t2 := Tryz.underlying2
  a2 := Tryz.isAgg2
  z2 := Tryz.sizeOf2
  v2 := Tryz.zeroValue2
  t3 := Tryz.underlying3
  a3 := Tryz.isAgg3
  z3 := Tryz.sizeOf3
  v3 := Tryz.zeroValue3
  t4 := Tryz.underlying4
  a4 := Tryz.isAgg4
  z4 := Tryz.sizeOf4
  v4 := Tryz.zeroValue4
  t5 := Tryz.underlying5
  a5 := Tryz.isAgg5
  z5 := Tryz.sizeOf5
  v5 := Tryz.zeroValue5
  t9 := Tryz.underlying9
  a9 := Tryz.isAgg9
  z9 := Tryz.sizeOf9
  v9 := Tryz.zeroValue9
  t20 := Tryz.underlying20
  a20 := Tryz.isAgg20
  z20 := Tryz.sizeOf20
  v20 := Tryz.zeroValue20
  t37 := Tryz.underlying22
  a37 := Tryz.isAgg22
  z37 := Tryz.sizeOf22
  v37 := Tryz.zeroValue22
  t46 := Tryz.underlying429
  a46 := Tryz.isAgg429
  z46 := Tryz.sizeOf429
  v46 := Tryz.zeroValue429
  t51 := Tryz.underlying427
  a51 := Tryz.isAgg427
  z51 := Tryz.sizeOf427
  v51 := Tryz.zeroValue427
  t53 := Tryz.underlying420
  a53 := Tryz.isAgg420
  z53 := Tryz.sizeOf420
  v53 := Tryz.zeroValue420
  t171 := Tryz.underlying419
  a171 := Tryz.isAgg419
  z171 := Tryz.sizeOf419
  v171 := Tryz.zeroValue419
  t173 := Tryz.underlying423
  a173 := Tryz.isAgg423
  z173 := Tryz.sizeOf423
  v173 := Tryz.zeroValue423
  t212 := Tryz.underlying426
  a212 := Tryz.isAgg426
  z212 := Tryz.sizeOf426
  v212 := Tryz.zeroValue426
  t213 := Tryz.underlying428
  a213 := Tryz.isAgg428
  z213 := Tryz.sizeOf428
  t232 := Tryz.underlying432
  a232 := Tryz.isAgg432
  z232 := Tryz.sizeOf432
  v232 := Tryz.zeroValue432
  t233 := Tryz.underlying433
  a233 := Tryz.isAgg433
  z233 := Tryz.sizeOf433
  v233 := Tryz.zeroValue433
  g17 := by kernel_rfl
  g18 := by kernel_rfl
  g19 := by kernel_rfl
  i0 := by kernel_rfl
  i2 := by kernel_rfl
  i3 := by kernel_rfl
  i4 := by kernel_rfl
  i5 := by kernel_rfl
  i9 := by kernel_rfl
  i20 := by kernel_rfl
  i37 := by kernel_rfl
  i46 := by kernel_rfl
  i51 := by kernel_rfl
  i53 := by kernel_rfl
  i171 := by kernel_rfl
  i173 := by kernel_rfl
  i212 := by kernel_rfl
  i232 := by kernel_rfl
  i233 := by kernel_rfl
  m17 := by kernel_rfl
  m18 := by kernel_rfl
  m19 := by kernel_rfl }
open Go.RowKit Go.Sort Go.Lib in
theorem Tryz.strconv_Itoa (n : Int) (h0 : -9223372036854775808 ≤ n) (h1 : n ≤ 9223372036854775807) (w : World) (htab : Lib.TabIs Tryz.prog w "internal/strconv.uint64pow10" .u64 Lib.pow10Tab) :
    Calls Tryz.prog 371 #[.int .i64 n] w fun e w' => e = .returned (.string ⟨(Lib.itoa n).toArray⟩) ∧ ∃ k os, w' = grow (w.drewN k) os := Any.strconv_Itoa Tryz.laysM171 n h0 h1 w htab
def Tryz.lays171_ren : Go.Shelf.Ren := ⟨fun | 171 => 371 | 243 => 393 | 246 => 403 | 283 => 404 | 284 => 405 | 285 => 406 | 286 => 407 | 129 => 409 | 317 => 408 | 318 => 410 | 319 => 411 | 320 => 412 | 337 => 413 | 338 => 414 | n => n, fun | 3 => 3 | 9 => 9 | 2 => 2 | 4 => 4 | 171 => 419 | 0 => 0 | 53 => 420 | 37 => 22 | 5 => 5 | 173 => 423 | 212 => 426 | 51 => 427 | 20 => 20 | 213 => 428 | 46 => 429 | 232 => 432 | 233 => 433 | n => n, fun | 17 => 0 | 18 => 1 | 19 => 2 | n => n⟩
theorem Tryz.lays171 : Go.Proofs.Lays.n171 Tryz.prog Tryz.lays171_ren := {
  mixed := by kernel_rfl
  f129 := Tryz.func409.trans (congrArg some (by kernel_rfl))
  f171 := Tryz.func371.trans (congrArg some (by kernel_rfl))
  f243 := Tryz.func393.trans (congrArg some (by kernel_rfl))
  f246 := Tryz.func403.trans (congrArg some (by kernel_rfl))
  f283 := Tryz.func404.trans (congrArg some (by kernel_rfl))
  f284 := Tryz.func405.trans (congrArg some (by kernel_rfl))
  f285 := Tryz.func406.trans (congrArg some (by kernel_rfl))
  f286 := Tryz.func407.trans (congrArg some (by kernel_rfl))
  f317 := Tryz.func408.trans (congrArg some (by kernel_rfl))
  f318 := Tryz.func410.trans (congrArg some (by kernel_rfl))
  f319 := Tryz.func411.trans (congrArg some (by kernel_rfl))
  f320 := Tryz.func412.trans (congrArg some (by kernel_rfl))
  f337 := Tryz.func413.trans (congrArg some (by kernel_rfl))
  f338 := Tryz.func414.trans (congrArg some (by kernel_rfl))
  t0 := Tryz.underlying0
  a0 := Tryz.isAgg0
  z0 := Tryz.sizeOf0
  v0 := Tryz.zeroValue0
  t2 := Tryz.underlying2
  a2 := Tryz.isAgg2
  z2 := Tryz.sizeOf2
  v2 := Tryz.zeroValue2
  t3 := Tryz.underlying3
  a3 := Tryz.isAgg3
  z3 := Tryz.sizeOf3
  v3 := Tryz.zeroValue3
  t4 := Tryz.underlying4
  a4 := Tryz.isAgg4
  z4 := Tryz.sizeOf4
  v4 := Tryz.zeroValue4
  t5 := Tryz.underlying5
  a5 := Tryz.isAgg5
  z5 := Tryz.sizeOf5
  v5 := Tryz.zeroValue5
  t9 := Tryz.underlying9
  a9 := Tryz.isAgg9
  z9 := Tryz.sizeOf9
  v9 := Tryz.zeroValue9
  t20 := Tryz.underlying20
  a20 := Tryz.isAgg20
  z20 := Tryz.sizeOf20
  v20 := Tryz.zeroValue20
  t37 := Tryz.underlying22
  a37 := Tryz.isAgg22
  z37 := Tryz.sizeOf22
  v37 := Tryz.zeroValue22
  t46 := Tryz.underlying429
  a46 := Tryz.isAgg429
  z46 := Tryz.sizeOf429
  v46 := Tryz.zeroValue429
  t51 := Tryz.underlying427
  a51 := Tryz.isAgg427
  z51 := Tryz.sizeOf427
  v51 := Tryz.zeroValue427
  t53 := Tryz.underlying420
  a53 := Tryz.isAgg420
  z53 := Tryz.sizeOf420
  v53 := Tryz.zeroValue420
  t171 := Tryz.underlying419
  a171 := Tryz.isAgg419
  z171 := Tryz.sizeOf419
  v171 := Tryz.zeroValue419
  t173 := Tryz.underlying423
  a173 := Tryz.isAgg423
  z173 := Tryz.sizeOf423
  v173 := Tryz.zeroValue423
  t212 := Tryz.underlying426
  a212 := Tryz.isAgg426
  z212 := Tryz.sizeOf426
  v212 := Tryz.zeroValue426
  t213 := Tryz.underlying428
  a213 := Tryz.isAgg428
  z213 := Tryz.sizeOf428
  t232 := Tryz.underlying432
  a232 := Tryz.isAgg432
  z232 := Tryz.sizeOf432
  v232 := Tryz.zeroValue432
  t233 := Tryz.underlying433
  a233 := Tryz.isAgg433
  z233 := Tryz.sizeOf433
  v233 := Tryz.zeroValue433
  g17 := by kernel_rfl
  g18 := by kernel_rfl
  g19 := by kernel_rfl }
open Go.RowKit Go.Sort Go.Lib in
theorem Tryz.strconv_Itoa_small (i : Nat) (hi : i < 100) (w : World) :
    Calls Tryz.prog 371 #[.int .i64 i] w fun e w' => e = .returned (.string ⟨(Lib.decDigits i).toArray⟩) ∧ w' = w := Any.strconv_Itoa_small Tryz.lays171 i hi w
def Tryz.lays111_ren : Go.Shelf.Ren := ⟨fun | 111 => 113 | n => n, fun | 28 => 24 | 3 => 3 | 4 => 4 | 0 => 0 | n => n, fun | n => n⟩
theorem Tryz.lays111 : Go.Proofs.Lays.n111 Tryz.prog Tryz.lays111_ren := {
  mixed := by kernel_rfl
  f111 := Tryz.func113.trans (congrArg some (by kernel_rfl))
  t0 := Tryz.underlying0
  a0 := Tryz.isAgg0
  z0 := Tryz.sizeOf0
  v0 := Tryz.zeroValue0
  t3 := Tryz.underlying3
  a3 := Tryz.isAgg3
  z3 := Tryz.sizeOf3
  v3 := Tryz.zeroValue3
  t4 := Tryz.underlying4
  a4 := Tryz.isAgg4
  z4 := Tryz.sizeOf4
  v4 := Tryz.zeroValue4
  t28 := Tryz.underlying24
  a28 := Tryz.isAgg24
  z28 := Tryz.sizeOf24
  v28 := Tryz.zeroValue24 }
open Go.RowKit Go.Lib in
theorem Tryz.slices_Equal_int (b1 o1 n c b2 o2 m d : Nat) (xs ys : List Int) (w : World) (hx : n ≤ xs.length) (hy : m ≤ ys.length) (hbig : n ≤ 9223372036854775807) (hbig2 : m ≤ 9223372036854775807) (hc1 : ∀ j, j < xs.length → w.cell? ⟨b1, o1 + j, none⟩ = some (.int .i64 (xs.getD j 0))) (hc2 : ∀ j, j < ys.length → w.cell? ⟨b2, o2 + j, none⟩ = some (.int .i64 (ys.getD j 0))) :
    Calls Tryz.prog 113 #[.slice (some ⟨b1, o1, none⟩) n c, .slice (some ⟨b2, o2, none⟩) m d] w fun e w' => e = .returned (.bool (xs.take n == ys.take m)) ∧ ∃ q, w' = w.drewN q := Any.slices_Equal_int Tryz.lays111 b1 o1 n c b2 o2 m d xs ys w hx hy hbig hbig2 hc1 hc2
open Go.RowKit Go.Lib in
theorem Tryz.slices_Equal_int_empty (a1 a2 : Option Addr) (c m d : Nat) (w : World) (hbig2 : m ≤ 9223372036854775807) :
    Calls Tryz.prog 113 #[.slice a1 0 c, .slice a2 m d] w fun e w' => e = .returned (.bool (decide (m = 0))) ∧ w' = w := Any.slices_Equal_int_empty Tryz.lays111 a1 a2 c m d w hbig2
def Tryz.laysNm215_ren : Go.Shelf.Ren := ⟨fun | 15 => 77 | n => n, fun | 22 => 24 | 3 => 3 | 4 => 4 | n => n, fun | n => n⟩
theorem Tryz.laysNm215 : Go.Proofs.Lays2.n15 Tryz.prog Tryz.laysNm215_ren := {
  mixed := by kernel_rfl
  f15 := Tryz.func77.trans (congrArg some (by kernel_rfl))
  t3 := Tryz.underlying3
  a3 := Tryz.isAgg3
  z3 := Tryz.sizeOf3
  v3 := Tryz.zeroValue3
  t4 := Tryz.underlying4
  a4 := Tryz.isAgg4
  z4 := Tryz.sizeOf4
  v4 := Tryz.zeroValue4
  t22 := Tryz.underlying24
  a22 := Tryz.isAgg24
  z22 := Tryz.sizeOf24
  v22 := Tryz.zeroValue24
  i3 := by kernel_rfl }
open Go.RowKit Go.Lib in
theorem Tryz.slices_Clone_int (b off n c : Nat) (zs : List Int) (w : World) (hz : n ≤ zs.length) (hbig : n * 8 ≤ 140737488355328) (hc : ∀ j, j < zs.length → w.cell? ⟨b, off + j, none⟩ = some (.int .i64 (zs.getD j 0))) :
    Calls Tryz.prog 77 #[.slice (some ⟨b, off, none⟩) n c] w fun e w' => ∃ v', e = .returned v' ∧ w'.ownsRow w.heap.size 3 1 v' n ((zs.take n).map (Value.int .i64)) ∧ v' ≠ .slice none 0 0 ∧ Below w.heap.size w w' := Any.slices_Clone_int Tryz.laysNm215 b off n c zs w hz hbig hc
open Go.RowKit Go.Lib in
theorem Tryz.slices_Clone_int_nil (n c : Nat) (w : World) :
    Calls Tryz.prog 77 #[.slice none n c] w fun e w' => e = .returned (.slice none 0 0) ∧ w' = w := Any.slices_Clone_int_nil Tryz.laysNm215 n c w
open Go.RowKit Go.Lib in
theorem Tryz.slices_Clone_int_zero (a : Addr) (c : Nat) (w : World) :
    Calls Tryz.prog 77 #[.slice (some a) 0 c] w fun e w' => ∃ v', e = .returned v' ∧ w'.ownsRow w.heap.size 3 1 v' 0 [] ∧ v' ≠ .slice none 0 0 ∧ Below w.heap.size w w' := Any.slices_Clone_int_zero Tryz.laysNm215 a c w
open Go.RowKit Go.Lib in
theorem Tryz.slices_Equal_int_lens (a1 a2 : Option Addr) (n c m d : Nat) (w : World) (hnm : n ≠ m) :
    Calls Tryz.prog 113 #[.slice a1 n c, .slice a2 m d] w fun e w' => e = .returned (.bool false) ∧ w' = w := Any.slices_Equal_int_lens Tryz.lays111 a1 a2 n c m d w hnm
def Tryz.laysSlE041_f77_ren : Go.Shelf.Ren := ⟨fun | 41 => 77 | n => n, fun | 22 => 24 | 23 => 3 | 4 => 4 | n => n, fun | n => n⟩
theorem Tryz.laysSlE041_f77 : Go.Proofs.SlLaysE0.n41 Tryz.prog Tryz.laysSlE041_f77_ren := {
  mixed := by kernel_rfl
  f41 := ⟨Tryz.f77.name, by decide, Tryz.func77.trans (congrArg some (by kernel_rfl))⟩
  t4 := Tryz.underlying4
  a4 := Tryz.isAgg4
  z4 := Tryz.sizeOf4
  v4 := Tryz.zeroValue4
  t22 := Tryz.underlying24
  a22 := Tryz.isAgg24
  z22 := Tryz.sizeOf24
  v22 := Tryz.zeroValue24 }
open Go.RowKit Go.Lib in
theorem Tryz.slices_Clone (i0 : TypeInfo) (z : Value) (size bytes : Nat) (hi : Tryz.prog.info? 3 = some i0) (hz0 : i0.zero = some z) (hz1 : i0.size = size) (hz2 : i0.bytes = bytes) (hzs : z.cells.size = size) (hsz : 0 < size) (z23 : ∀ w, (Go.sizeOf 3).run Tryz.prog w = .ok size w) (b off n c : Nat) (news : List Value) (w : World) (hl : news.length = n * size) (hn : n ≤ maxLen) (hbig : n * bytes ≤ 140737488355328) (hc : ∀ j u, news[j]? = some u → w.cell? ⟨b, off + j, none⟩ = some u) (h1 : ∀ u ∈ news, u.oneCell' = true) :
    Calls Tryz.prog 77 #[.slice (some ⟨b, off, none⟩) n c] w fun e w' => ∃ v', e = .returned v' ∧ w'.ownsRow w.heap.size 3 size v' n news ∧ v' ≠ .slice none 0 0 ∧ Below w.heap.size w w' := AnyE.slices_Clone Tryz.laysSlE041_f77 i0 z size bytes hi hz0 hz1 hz2 hzs hsz z23 b off n c news w hl hn hbig hc h1
open Go.RowKit Go.Lib in
theorem Tryz.slices_Clone_nil (n c : Nat) (w : World) :
    Calls Tryz.prog 77 #[.slice none n c] w fun e w' => e = .returned (.slice none 0 0) ∧ w' = w := AnyE.slices_Clone_nil Tryz.laysSlE041_f77 n c w
end Go.Proofs
end
section
namespace Go.AM
open Go Go.RowKit
set_option maxRecDepth 100000
theorem ins_pure {w : World} {Z : Nat → Prop} {io : Option Io} {ins : List (Mode × TV)} {vals : List Value} {fin : List Nat} (h : InsR P w Z io ins vals fin) (hp : ∀ m ∈ ins, m.1 = Mode.pure) : fin = [] ∧ InsR P w Z none ins vals [] ∧ ∀ w' Z', OutsR P w' Z' none ins vals [] [] := by
  induction h with
  | nil => exact ⟨rfl, .nil, fun _ _ => .nil⟩
  | cons h t ih =>
    rename_i m v x f r xs g
    obtain ⟨h1, h2, h3⟩ := ih fun m hm => hp m (List.mem_cons_of_mem _ hm)
    have hm : m = Mode.pure := hp _ (List.mem_cons_self ..)
    subst hm; subst h1
    cases h with
    | pone h => exact ⟨rfl, .cons (f := []) (.pone h) h2, fun w' Z' => .pure (h3 w' Z')⟩
    | pagg h => exact ⟨rfl, .cons (f := []) (.pagg h) h2, fun w' Z' => .pure (h3 w' Z')⟩
theorem sem_pure {f : Nat} {ins : List (Mode × TV)} {res : TV} (hf : ∃ fn, (P : Program).funcs[f]? = some fn ∧ fn.body.isNone = false ∧ (fn.name == "runtime.NumGoroutine") = false) (hp : ∀ m ∈ ins, m.1 = Mode.pure)
    (h : ∀ (w : World) (Z : Nat → Prop) (vals : List Value), GOk P w Z → InsR P w Z none ins vals [] → (∀ b, Z b → b < w.heap.size) →
      Calls P f vals.toArray w fun e w' => ∃ v fs, e = .returned v ∧ Below w.heap.size w w' ∧ (∀ Z', ResR P w' Z' res v fs) ∧ fs.Nodup ∧ ∀ b ∈ fs, w.heap.size ≤ b ∧ b < w'.heap.size) : Sem P f ins [] res := by
  refine ⟨hf, fun w Z io vals fin hG hI hio hnd hfin hZ => ?_⟩
  obtain ⟨rfl, hI', ho⟩ := ins_pure hI hp
  have hio : io = none := by
    rcases hio with h | ⟨lo, hi, v, hm⟩
    · exact h
    · cases hp _ hm
  subst hio
  refine (h w Z vals hG hI' fun b hb => (hZ b hb).1).mono ?_
  rintro e w' ⟨v, fs, rfl, hb, hr, hn, hfs⟩
  refine ⟨v, rfl, Z, fs, [], ⟨hb.os, hb.tape, hb.output, hb.size, fun k hk _ _ => hb.block k hk, fun i hi => by cases hi⟩, fun b hb => hb, fun b hz => ⟨.inl hz, Nat.lt_of_lt_of_le (hZ b hz).1 hb.size, fun i hi => by cases hi⟩, hr Z, ho _ _, by simpa using hn, fun b hbm => ?_⟩
  have hbm : b ∈ fs := by simpa using hbm
  exact ⟨.inr (hfs b hbm).1, (hfs b hbm).2, fun hz => absurd (hZ b hz).1 (Nat.not_lt.2 (hfs b hbm).1), fun i hi => by cases hi⟩
theorem ins_one {w : World} {Z : Nat → Prop} {io : Option Io} {av : AV} {vals : List Value} {fin : List Nat} (h : InsR P w Z io [(.pure, .one av)] vals fin) : ∃ x, vals = [x] ∧ Rd P w Z av x := by
  cases h with
  | cons h t => cases t; cases h with | pone h => exact ⟨_, rfl, h⟩
theorem ints_flat : ∀ l : List Int, (ints l).flatten = l.map fun n => eI n
  | [] => rfl
  | a :: r => by show eI a :: (ints r).flatten = _; rw [ints_flat r]; rfl
theorem cells_int : (P : Program).cellsOf 3 = 1 := by kernel_rfl
theorem ow_ints {w : World} {Z : Nat → Prop} {v : Value} {l : List Int} {n B : Nat} {cells : List Value} (hm : l.length ≤ 1125899906842624) (ho : w.ownsRow B 3 1 v n cells) (hn : n = l.length) (hc : cells = l.map (Value.int .i64)) : Ow P w Z (.sl 3 (ints l)) v v.ownBlock.toList := by
  subst hn hc
  have h : Ow P w Z (.sl 3 (ints l)) v (v.ownBlock.toList ++ (List.replicate l.length ([] : List Nat)).flatten) := by
    refine .sl (cells := l.map (Value.int .i64)) (by simpa using hm) (by intro row hr; obtain ⟨x, _, rfl⟩ := List.mem_map.1 hr; rw [cells_int]; rfl) ?_ (by simp) ?_
    · rw [cells_int, ints_len]
      refine ⟨ho.1, ?_⟩
      rcases ho.2 with h | ⟨g, cap, cur, h1, h2, h3⟩
      · exact .inl h
      · exact .inr ⟨g, cap, cur, h1, Nat.zero_le _, h3⟩
    · intro k av x f h1 h2 h3
      rw [ints_flat] at h1
      simp only [List.getElem?_map] at h1 h2
      cases hl : l[k]? with
      | none => rw [hl] at h1; cases h1
      | some n =>
        rw [hl] at h1 h2
        obtain rfl := Option.some.inj h1
        obtain rfl := Option.some.inj h2
        have : f = [] := List.eq_of_mem_replicate (List.mem_of_getElem? h3)
        subst this
        exact .prim rfl
  simpa using h
theorem rd_ints {w : World} {Z : Nat → Prop} {v : Value} {l : List Int} (h : Rd P w Z (.sl 3 (ints l)) v) : ∃ a cap, v = .slice a l.length cap ∧ (l ≠ [] → ∃ b o, a = some ⟨b, o, none⟩) ∧ ∀ b o, a = some ⟨b, o, none⟩ → ∀ j, j < l.length → w.cell? ⟨b, o + j, none⟩ = some (.int .i64 (l.getD j 0)) := by
  cases h with
  | sl hm hl hcap hw hn hb hc hr =>
    rename_i a len cap cells
    subst hl
    rw [ints_len] at *
    refine ⟨a, cap, rfl, fun hl => ?_, fun b o e j hj => ?_⟩
    · obtain ⟨b, o, e', _⟩ := hb (by simpa using hl)
      exact ⟨b, o, e'⟩
    · rw [cells_int, Nat.mul_one] at hn
      have hj' : j < cells.length := by omega
      have h1 := hr j (eI (l.getD j 0)) cells[j] (by rw [ints_flat, List.getElem?_map, List.getElem?_eq_getElem hj, List.getD_eq_getElem?_getD, List.getElem?_eq_getElem hj]; rfl) (List.getElem?_eq_getElem hj')
      have h2 := hc b o j cells[j] e (List.getElem?_eq_getElem hj')
      generalize cells[j] = x at h1 h2
      cases h1
      exact h2
theorem ownB_nodup (v : Value) : v.ownBlock.toList.Nodup := by cases v.ownBlock <;> simp
theorem ownB_new {w : World} {B e size n : Nat} {v : Value} {xs : List Value} (h : w.ownsRow B e size v n xs) : ∀ b ∈ v.ownBlock.toList, B ≤ b ∧ b < w.heap.size := by
  intro b hb
  rcases h.2 with ⟨rfl, _⟩ | ⟨g, cap, cur, rfl, h1, h2, _⟩
  · simp [Value.ownBlock] at hb
  · simp [Value.ownBlock] at hb
    subst hb
    exact ⟨h1, (Array.getElem?_eq_some_iff.1 h2).1⟩
theorem ints_clone (l : List Int) (hl : l.length ≤ 100000) : Sem P 77 [(.pure, .one (.sl 3 (ints l)))] [] (.one (.sl 3 (ints l))) := by
  refine sem_pure (by refine ⟨Go.Proofs.Tryz.f77, ?_, ?_, ?_⟩ <;> kernel_rfl) (by simp) fun w Z vals hG hI hZ => ?_
  obtain ⟨x, rfl, hx⟩ := ins_one hI
  obtain ⟨a, cap, rfl, h0, hc⟩ := rd_ints hx
  cases a with
  | none =>
    have hl0 : l = [] := by
      by_cases hl : l = []
      · exact hl
      · obtain ⟨b, o, e⟩ := h0 hl; cases e
    subst hl0
    refine (Go.Proofs.Tryz.slices_Clone_int_nil _ _ w).mono ?_
    rintro e w' ⟨rfl, rfl⟩
    exact ⟨_, [], rfl, Below.refl _ _, fun Z' => .one (ow_ints (cells := []) (B := 0) (by simp) (World.ownsRow_nil _ _ _ _) rfl rfl), by simp, by simp⟩
  | some p =>
    by_cases hl0 : l = []
    · subst hl0
      refine (Go.Proofs.Tryz.slices_Clone_int_zero p _ w).mono ?_
      rintro e w' ⟨v, rfl, ho, hn, hb⟩
      refine ⟨v, v.ownBlock.toList, rfl, hb, fun Z' => .one (ow_ints (by simp) ho rfl rfl), ownB_nodup _, ownB_new ho⟩
    · obtain ⟨b, o, e⟩ := h0 hl0
      obtain rfl := Option.some.inj e
      refine (Go.Proofs.Tryz.slices_Clone_int b o l.length cap l w (Nat.le_refl _) (by omega) (hc b o rfl)).mono ?_
      rintro e w' ⟨v, rfl, ho, hn, hb⟩
      refine ⟨v, v.ownBlock.toList, rfl, hb, fun Z' => .one (ow_ints (by omega) ho rfl (by simp)), ownB_nodup _, ownB_new ho⟩
end Go.AM
end
section
namespace Cc
open Go Go.AM
set_option maxRecDepth 100000
set_option maxHeartbeats 4000000
theorem dot_take : ∀ {a b : List Int} {i : Nat}, i < a.length → i < b.length → dot (a.take (i + 1)) (b.take (i + 1)) = dot (a.take i) (b.take i) + a.getD i 0 * b.getD i 0
  | [], _, _, h, _ => by simp at h
  | _ :: _, [], _, _, h => by simp at h
  | x :: a, y :: b, 0, _, _ => by simp [dot]
  | x :: a, y :: b, i + 1, h, h' => by
    have := dot_take (a := a) (b := b) (i := i) (by simpa using h) (by simpa using h')
    simp only [List.take_succ_cons, dot, List.getD_cons_succ] at this ⊢
    omega
theorem getD_bd {l : List Int} {m : Int} (h : ∀ x ∈ l, -m ≤ x ∧ x ≤ m) {i : Nat} (hi : i < l.length) : -m ≤ l.getD i 0 ∧ l.getD i 0 ≤ m := by
  rw [List.getD_eq_getElem?_getD, List.getElem?_eq_getElem hi]
  exact h _ (List.getElem_mem hi)
theorem impl_dot (a b : List Int) (hl : a.length ≤ 3) (hab : a.length = b.length) (ha : ∀ x ∈ a, -10000000 ≤ x ∧ x ≤ 10000000) (hb' : ∀ x ∈ b, -10000000000 ≤ x ∧ x ≤ 10000000000) : Sem P 187 [(.pure, AI a), (.pure, AI b)] [] (I (dot a b)) := by
  refine fn_okR (E := E0) E0_tab E0_ord (fn := Go.Proofs.Tryz.f187) (by kernel_rfl) (by kernel_rfl) (fun hb => ?_)
  have la := ints_len a
  have lb := ints_len b
  conv => whnf
  (repeat' first | ((first|refine sN ?_|refine Dr.cons ?_|(refine Dr.nil ?_;refine drawIf (by kernel_rfl) ?_)|refine vN rfl ?_|refine Vc.draw rfl (by kernel_rfl) ?_|refine mkSl (by omega) (by omega) ?_);conv=>whnf))
  refine Vc.loop2 (fun (i : Nat) (n : Int) => i ≤ a.length ∧ n = dot (a.take i) (b.take i) ∧ -(i * 100000000000000000 : Int) ≤ n ∧ n ≤ i * 100000000000000000) (fun i n => updL [1, 4, 8, 9, 24] [(10, I i), (5, I n)] []) (fun i _ => a.length - i) 0 0 ⟨by omega, by simp [dot], by simp, by simp⟩ ?_ (fun i n hi => ?_)
  · repeat' (first | exact True.intro | ((conv => whnf); first | exact True.intro | refine ⟨by rfl, ?_⟩ | refine ⟨?_, ?_⟩))
  · obtain ⟨hi, hn, h1, h2⟩ := hi
    conv => whnf
    (repeat' first | ((first|refine sN ?_|refine Dr.cons ?_|(refine Dr.nil ?_;refine drawIf (by kernel_rfl) ?_)|refine vN rfl ?_|refine Vc.draw rfl (by kernel_rfl) ?_|refine mkSl (by omega) (by omega) ?_);conv=>whnf))
    refine ifB_d (fun g => ?_) (fun g => ?_)
    all_goals conv => whnf
    · have e := dot_take (a := a) (b := b) (i := i) (by omega) (by omega)
      have p := mul_bd (getD_bd ha (i := i) (by omega)) (getD_bd hb' (i := i) (by omega))
      repeat' first | ((first|refine sN ?_|refine Dr.cons ?_|(refine Dr.nil ?_;refine drawIf (by kernel_rfl) ?_)|refine vN rfl ?_|refine Vc.draw rfl (by kernel_rfl) ?_|refine mkSl (by omega) (by omega) ?_);conv=>whnf) | (refine ifB_i (fun _=>?_) (fun _=>?_)<;>conv=>whnf) | ((first | refine ixN (enc := rI) 0 (by omega) ?_ | refine w64 (by omega) (by omega) ?_);conv=>whnf)
      refine ⟨i + 1, n + a.getD i 0 * b.getD i 0, ⟨by omega, by omega, by omega, by omega⟩, by simp only; omega, ?_⟩
      repeat' (first | exact True.intro | ((conv => whnf); first | exact True.intro | refine ⟨by rfl, ?_⟩ | refine ⟨?_, ?_⟩))
    · (repeat' first | ((first|refine sN ?_|refine Dr.cons ?_|(refine Dr.nil ?_;refine drawIf (by kernel_rfl) ?_)|refine vN rfl ?_|refine Vc.draw rfl (by kernel_rfl) ?_|refine mkSl (by omega) (by omega) ?_);conv=>whnf))
      have e : i = a.length := by omega
      subst e
      rw [List.take_length, hab, List.take_length] at hn
      exact rI' hn
theorem dot_bd {a b : List Int} (hl : a.length ≤ 3) {m k : Int} (ha : ∀ x ∈ a, -m ≤ x ∧ x ≤ m) (hb : ∀ x ∈ b, -k ≤ x ∧ x ≤ k) (hm : 0 ≤ m * k) : -(3 * (m * k)) ≤ dot a b ∧ dot a b ≤ 3 * (m * k) := by
  match a, b, hl with
  | [], _, _ => simp [dot]; omega
  | _ :: _, [], _ => simp [dot]; omega
  | [x], y :: b, _ =>
    have := mul_bd (ha x (by simp)) (hb y (by simp))
    simp only [dot]; omega
  | [x, x'], [y], _ =>
    have := mul_bd (ha x (by simp)) (hb y (by simp))
    simp only [dot]; omega
  | [x, x'], y :: y' :: b, _ =>
    have := mul_bd (ha x (by simp)) (hb y (by simp))
    have := mul_bd (ha x' (by simp)) (hb y' (by simp))
    simp only [dot]; omega
  | [x, x', x''], [y], _ =>
    have := mul_bd (ha x (by simp)) (hb y (by simp))
    simp only [dot]; omega
  | [x, x', x''], [y, y'], _ =>
    have := mul_bd (ha x (by simp)) (hb y (by simp))
    have := mul_bd (ha x' (by simp)) (hb y' (by simp))
    simp only [dot]; omega
  | [x, x', x''], y :: y' :: y'' :: b, _ =>
    have := mul_bd (ha x (by simp)) (hb y (by simp))
    have := mul_bd (ha x' (by simp)) (hb y' (by simp))
    have := mul_bd (ha x'' (by simp)) (hb y'' (by simp))
    simp only [dot]; omega
theorem impl_at (f : Form) (vals args : List Int) (hf : f.bd 10000000) (hv : nums vals 3) (ha : nums args 2) : Sem P 84 [(.pure, .agg (aF f)), (.pure, AI vals), (.pure, AI args)] [] (I (f.at vals args)) := by
  have b1 := dot_bd (a := f.C) (b := vals) (by rw [hf.1.1]; decide) hf.2.1 hv.2 (by decide)
  have b2 := dot_bd (a := f.D) (b := args) (by rw [hf.1.2]; decide) hf.2.2.1 ha.2 (by decide)
  have b3 := hf.2.2.2
  refine fn_okR (E := E0) E0_tab E0_ord (fn := Go.Proofs.Tryz.f84) (by kernel_rfl) (by kernel_rfl) (fun hb => ?_)
  conv => whnf
  repeat' first | ((first|refine sN ?_|refine Dr.cons ?_|(refine Dr.nil ?_;refine drawIf (by kernel_rfl) ?_)|refine vN rfl ?_|refine Vc.draw rfl (by kernel_rfl) ?_|refine mkSl (by omega) (by omega) ?_);conv=>whnf) | (refine ifB_i (fun _=>?_) (fun _=>?_)<;>conv=>whnf) | (refine ⟨_, impl_dot f.C vals (by rw [hf.1.1]; decide) (by rw [hf.1.1, hv.1]) hf.2.1 hv.2, ?_⟩;conv=>whnf) | (refine ⟨_, impl_dot f.D args (by rw [hf.1.2]; decide) (by rw [hf.1.2, ha.1]) hf.2.2.1 ha.2, ?_⟩;conv=>whnf) | (refine w64 (by omega) (by omega) ?_;conv=>whnf)
  exact ⟨rfl, rfl⟩
theorem go_at (args : List Int) {act : List Line} {i : Nat} (own tells : List Int) (h : i < act.length) : goLines args (act.drop i) own tells =
    if (act.getD i default).Kind = 4 then none
    else if (act.getD i default).Kind = 1 then (if (act.getD i default).Form.at own args < 0 then goLines args (act.drop (i + 1 + (act.getD i default).Skip.toNat)) own tells else goLines args (act.drop (i + 1)) own tells)
    else if (act.getD i default).Kind = 2 then goLines args (act.drop (i + 1)) (own.set (act.getD i default).Pot.toNat (own.getD (act.getD i default).Pot.toNat 0 + (act.getD i default).Form.at own args)) tells
    else goLines args (act.drop (i + 1)) own (tells ++ [(act.getD i default).Form.at own args]) := by
  rw [List.drop_eq_getElem_cons h, goLines, List.drop_drop]
  have e : act.getD i default = act[i] := by rw [List.getD_eq_getElem?_getD, List.getElem?_eq_getElem h]; rfl
  rw [e]
theorem go_end (args : List Int) {act : List Line} {i : Nat} (own tells : List Int) (h : act.length ≤ i) : goLines args (act.drop i) own tells = some (own, tells) := by
  rw [List.drop_eq_nil_of_le h, goLines]
def bnd : Nat → Int
  | 0 => 10000
  | k + 1 => 7 * bnd k + 74
theorem bnd_ge : ∀ k, 10000 ≤ bnd k
  | 0 => by decide
  | k + 1 => by have := bnd_ge k; simp only [bnd]; omega
theorem bnd_mono {i j : Nat} (h : i ≤ j) : bnd i ≤ bnd j := by
  induction j with
  | zero => obtain rfl : i = 0 := by omega
            exact Int.le_refl _
  | succ j ih =>
    by_cases e : i = j + 1
    · rw [e]; exact Int.le_refl _
    · have := ih (by omega)
      have := bnd_ge j
      simp only [bnd]; omega
theorem bnd_le {i : Nat} (h : i ≤ 6) : bnd i ≤ 2000000000 := Int.le_trans (bnd_mono h) (by decide)
def potsB (own : List Int) (i : Nat) : Prop := own.length = 3 ∧ ∀ x ∈ own, -bnd i ≤ x ∧ x ≤ bnd i
theorem potsB.nums {own : List Int} {i : Nat} (h : potsB own i) (hi : i ≤ 6) : nums own 3 := ⟨h.1, fun x hx => by have := h.2 x hx; have := bnd_le hi; omega⟩
theorem potsB.mono {own : List Int} {i j : Nat} (h : potsB own i) (hi : i ≤ j) : potsB own j := ⟨h.1, fun x hx => by have := h.2 x hx; have := bnd_mono hi; omega⟩
theorem potsB.zero {own : List Int} (h : valOk own = true) : potsB own 0 := by
  obtain ⟨h1, h2⟩ := within_iff.1 h
  exact ⟨h1, fun x hx => h2 x hx⟩
theorem arg_nums {args : List Int} (h : argOk args = true) : nums args 2 := by
  obtain ⟨h1, h2⟩ := within_iff.1 h
  exact ⟨h1, fun x hx => by have := h2 x hx; omega⟩
theorem arg_bd {args : List Int} (h : argOk args = true) : ∀ x ∈ args, -9 ≤ x ∧ x ≤ 9 := (within_iff.1 h).2
theorem line_form {x : Line} (h : x.ok = true) (h4 : ¬ x.Kind = 4) : x.Form.small = true := by
  unfold Line.ok at h
  split at h
  · simp at h; exact h.2
  · split at h
    · simp at h; exact h.2
    · split at h
      · simp at h; exact h.2
      · simp_all
theorem small_form {f : Form} (h : f.small = true) : f.bd 10000000 ∧ (∀ x ∈ f.C, -2 ≤ x ∧ x ≤ 2) ∧ (∀ x ∈ f.D, -2 ≤ x ∧ x ≤ 2) ∧ -20 ≤ f.K ∧ f.K ≤ 20 := by
  obtain ⟨a, b, c, d, e, k, rfl, ha, hb, hc, hd, he, hk⟩ := small_bd h
  refine ⟨bdI (by omega) (by omega) (by omega) (by omega) (by omega) (by omega), by simp; omega, by simp; omega, by simp; omega⟩
theorem at_small {f : Form} {own args : List Int} {i : Nat} (hf : f.small = true) (ho : potsB own i) (ha : argOk args = true) : -(6 * bnd i + 74) ≤ f.at own args ∧ f.at own args ≤ 6 * bnd i + 74 := by
  obtain ⟨h0, h1, h2, h3⟩ := small_form hf
  have hb := bnd_ge i
  have p1 := dot_bd (a := f.C) (b := own) (by rw [h0.1.1]; decide) h1 ho.2 (by omega)
  have p2 := dot_bd (a := f.D) (b := args) (by rw [h0.1.2]; decide) h2 (arg_bd ha) (by decide)
  simp only [Form.at]; omega
theorem potsB.set {own : List Int} {i : Nat} {p : Nat} {n : Int} (h : potsB own i) (hn : -(6 * bnd i + 74) ≤ n ∧ n ≤ 6 * bnd i + 74) (hp : p < 3) : potsB (own.set p (own.getD p 0 + n)) (i + 1) := by
  have hb := bnd_ge i
  have hq := getD_bd h.2 (i := p) (by rw [h.1]; exact hp)
  refine ⟨by rw [List.length_set]; exact h.1, fun x hx => ?_⟩
  rcases List.mem_or_eq_of_mem_set hx with h' | rfl
  · have := h.2 x h'; simp only [bnd]; omega
  · simp only [bnd]; omega
end Cc
end
