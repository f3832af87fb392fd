/- The law FnExactSerSame (part 2 of 7). Conditions: none beyond the statement's own. -/
import Derived.LoopN
import Derived.Test.YtjkemkpghacdoaaGreatDoorEsa1
set_option linter.unusedVariables false
set_option linter.unusedSimpArgs false
section
namespace Go.AM
open Go
set_option linter.unusedVariables false
theorem keeps_drop {n : Nat} {a : AV} {ks : List Nat} (h : keepsB n a = true) (hk : ∀ m ∈ ks, m = n) : a.drop ks = a := by
  have hit : ∀ ns : List Nat, hitN ns [n] = false → hitN ns ks = false := fun ns h => hitN_false.2 fun m hm hmk => hitN_false.1 h m hm (by simp [hk m hmk])
  cases a <;> simp only [keepsB, AV.tag1, Bool.not_eq_true', AV.drop] at h ⊢
  · rw [hit _ h]; rfl
  · rw [hit _ h]; rfl
  · rename_i f caps
    have : anyTag ks caps = false := anyTag_false.2 fun a ha => by
      have := anyTag_false.1 h a ha
      cases a <;> simp only [AV.tag1] at this ⊢ <;> exact hit _ this
    rw [this]; rfl
theorem run_storeAt {P : Program} {w : World} {t : Nat} {ti : TI} (hT : TIok P t ti) {g o : Nat} {c : Array Value} {ty : Nat} {v : Value} (hg : w.heap[g]? = some (.cells c ty (0, 0))) (hv : v.cells.size = ti.n) (ho : o + ti.n ≤ c.size) (h1 : ∀ x ∈ v.cells.toList, x.oneCell' = true) :
    (Instr.storeAt t (.pointer (some ⟨g, o, none⟩)) v).run P w = .ok () (w.setRow g (c.toList.take o ++ v.cells.toList ++ c.toList.drop (o + ti.n)).toArray) := by
  have hs := hT.size (P := P) w
  have hst := run_storeCells_at P g o ty v.cells.toList 0 c w hg (by rw [Array.length_toList, hv]; omega) h1
  rw [Array.length_toList, hv] at hst
  simp only [Nat.add_zero] at hst
  simp [Instr.storeAt, Instr.sureAddr, storeVar, hs, hv, hst]
section
variable {P : Program} {cx : Cx} {st : St} {a : Act} {w : World} {pl : Pl} {Z : Nat → Prop}
theorem Rel.frmW (R : Rel P cx st a w pl Z) {n : Nat} {row : List AV} (hob : lk st.s n = some (.box row)) {c c' : Array Value} {ty : Nat} (hc : w.heap[(pl.adr n).1]? = some (.cells c ty (0, 0))) (hs : c'.size = c.size)
    (hk : ∀ k, ¬ ((pl.adr n).2 ≤ k ∧ ∃ av, row[k - (pl.adr n).2]? = some av ∧ av.isNa = false) → c'[k]? = c[k]?) : Frm cx.w0 (w.setRow (pl.adr n).1 c') cx.own0 cx.io := by
  have hown : pl.own n = [(pl.adr n).1] := (R.obj n _ hob).1
  have hn : st.has n := by unfold St.has St.O; rw [hob]; rfl
  have hmay := (R.lt n hn _ (by rw [hown]; exact List.mem_singleton.2 rfl)).2.2
  refine ⟨R.fr.os, R.fr.tape, R.fr.output, Nat.le_trans R.fr.size (by simp [World.setRow]), fun k h1 h2 h3 => ?_, fun i hi => ?_⟩
  · rw [setRow_other]
    · exact R.fr.blk k h1 h2 h3
    · rintro rfl
      rcases hmay with h | ⟨i, hi, e⟩ | h
      · exact h2 h
      · exact h3 i hi e
      · omega
  · obtain ⟨c0, c1, ty', e1, e2, e3, e4⟩ := R.fr.iob i hi
    by_cases hb : (pl.adr n).1 = i.b
    · rw [← hb] at e2
      rw [hc] at e2
      simp only [Option.some.injEq, Obj.cells.injEq, and_true] at e2
      obtain ⟨rfl, rfl⟩ := e2
      refine ⟨c0, c', ty, e1, by rw [← hb]; exact setRow_heap w _ c c' ty (0, 0) hc, by omega, fun k hcan => ?_⟩
      rw [← e4 k hcan]
      refine hk k fun ⟨h1, av, h2, h3⟩ => hcan ?_
      obtain ⟨g1, g2⟩ := R.io i hi n row hob hb
      refine ⟨by omega, ?_⟩
      rw [← g2, ← g1, List.getElem?_map, h2]; simp [h3]
    · refine ⟨c0, c1, ty', e1, ?_, e3, e4⟩
      rw [setRow_other _ _ _ _ fun e => hb e.symm]; exact e2
end
section
variable {P : Program} {o : Oper} {uid : Nat}
theorem good_storeB {t : Nat} {ti : TI} {x v : Operand} (ho : o.op = .store t x v) (hT : TIok P t ti) {rx rv : List (Nat × TV)} {ro : List (Nat × Ob)} {n off : Nat} {row : List AV} {tv : TV} (hx : Ev P x rx (.one (.ptr n 0 off))) (hv : Ev P v rv tv) (hl : (tvCells tv).length = ti.n) (hle : off + ti.n ≤ row.length)
    (hna : ∀ av ∈ takeC ti.n (dropC off row), noNa av = true)
    (hlive : ∀ (cx : Cx) (st' : St) (a : Act) (w : World) (pl : Pl) (Z : Nat → Prop), Rel P cx st' a w pl Z → RdO ro st' → ∀ av ∈ tvCells tv, ∀ x, Ar P st' pl Z w av x → x.oneCell' = true)
    (hkeep : ∀ av ∈ splice row off (embox (uid * 64 + 1) (tvCells tv)).1, keepsB n av = true) :
    Good P o uid ⟨rx ++ rv, (n, .box row) :: ro, .one .undef, (n, .box (splice row off (embox (uid * 64 + 1) (tvCells tv)).1)) :: (embox (uid * 64 + 1) (tvCells tv)).2, []⟩ := by
  intro cx st a w pl Z R ht hro hok K Q hK
  obtain ⟨ht1, ht2⟩ := RdT.append.1 ht
  obtain ⟨e1, _⟩ := hx cx st a w pl Z R ht1
  obtain ⟨e2, e2u⟩ := hv cx st a w pl Z R ht2
  have hob := (RdO.cons.1 hro).1
  have hro' := (RdO.cons.1 hro).2
  have hptr : a.eval x = .pointer (some ⟨(pl.adr n).1, (pl.adr n).2 + off, none⟩) := e1 _ hob
  obtain ⟨hown, c, ty, hc, hsz, hr⟩ := R.obj n _ hob
  have hn : st.has n := by unfold St.has St.O; rw [hob]; rfl
  have hone := hlive cx st a w pl Z R hro'
  have hars : Ars P st pl Z w (tvCells tv) (a.eval v).cells.toList := by
    cases tv with
    | one b =>
      rw [one_cells (hone b (by simp [tvCells]) _ e2)]
      refine ⟨rfl, fun k av y hk hy => ?_⟩
      cases k with
      | zero => simp [tvCells] at hk hy; subst hk; subst hy; exact e2
      | succ k => simp [tvCells] at hk
    | agg cs => obtain ⟨xs, e1, h3⟩ := e2; rw [e1]; exact h3
    | tup vs => simp [tvCells] at hl; have := hT.pos; omega
  generalize hcs : tvCells tv = cs at *
  generalize hvs : (a.eval v).cells.toList = vs at *
  have hvsz : (a.eval v).cells.size = ti.n := by rw [← Array.length_toList, hvs, hars.1, hl]
  have hvl : vs.length = ti.n := by rw [← hvs, Array.length_toList]; exact hvsz
  have hnaC : ∀ av ∈ cs, av.isNa = false := by
    intro av hav
    cases av <;> first | rfl | skip
    exact absurd (hone .na hav (.agg #[]) trivial) (by simp [Value.oneCell'])
  let c' : Array Value := (c.toList.take ((pl.adr n).2 + off) ++ vs ++ c.toList.drop ((pl.adr n).2 + off + ti.n)).toArray
  let w' := w.setRow (pl.adr n).1 c'
  have hcsz : c'.size = c.size := by simp [c', hvl]; omega
  have hcin : ∀ k, off ≤ k ∧ k < off + ti.n → c'[(pl.adr n).2 + k]? = vs[k - off]? := by
    intro k hk
    simp only [c', List.append_assoc, List.getElem?_toArray]
    rw [List.getElem?_append_right (by simp; omega)]
    have : (c.toList.take ((pl.adr n).2 + off)).length = (pl.adr n).2 + off := by simp; omega
    rw [this, List.getElem?_append_left (by omega)]
    congr 1; omega
  have hcout : ∀ k, ¬ ((pl.adr n).2 + off ≤ k ∧ k < (pl.adr n).2 + off + ti.n) → c'[k]? = c[k]? := by
    intro k hk
    simp only [c', List.append_assoc, List.getElem?_toArray]
    have h1 : (c.toList.take ((pl.adr n).2 + off)).length = (pl.adr n).2 + off := by simp; omega
    by_cases h2 : k < (pl.adr n).2 + off
    · rw [List.getElem?_append_left (by omega), List.getElem?_take, if_pos h2]; simp
    · rw [List.getElem?_append_right (by omega), h1, List.getElem?_append_right (by omega), List.getElem?_drop]
      rw [show (pl.adr n).2 + off + ti.n + (k - ((pl.adr n).2 + off) - vs.length) = k by omega]
      simp
  have hrun : (execOp a.eval o).run P w = .ok .skip w' := by
    have := run_storeAt (P := P) (w := w) hT (g := (pl.adr n).1) (o := (pl.adr n).2 + off) (v := a.eval v) hc hvsz (by omega) (by
      rw [hvs]
      intro y hy
      obtain ⟨k, hk, rfl⟩ := List.mem_iff_getElem.1 hy
      have hk2 : k < cs.length := by omega
      exact hone _ (List.getElem_mem hk2) _ (hars.2 k _ _ (List.getElem?_eq_getElem hk2) (List.getElem?_eq_getElem hk)))
    rw [hvs] at this
    simp only [execOp, ho, hptr, Sem.run_bind, this, Result.andThen_ok, Sem.run_pure]
    rfl
  let row' := splice row off (embox (uid * 64 + 1) cs).1
  let pk : Pk := ⟨rx ++ rv, (n, .box row) :: ro, .one .undef, (n, .box row') :: (embox (uid * 64 + 1) cs).2, []⟩
  let ps : List Plc := ⟨n, .box row', pl.hdr n, pl.adr n, pl.own n⟩ :: (embox (uid * 64 + 1) cs).2.map nilP
  have hput : pk.put = ps.map fun p => (p.n, p.o) := by simp only [pk, ps, List.map_cons, nil_places]
  have hnm : names pk.put = ps.map (·.n) := by rw [hput, names_map]
  have hu' : uniqN (ps.map (·.n)) = true := by have := okPk_uniq hok; rw [← hnm]; exact this
  have hfr := okPk_fresh hok (by simp)
  have hb30 : cs.length ≤ 30 := by rw [hl]; exact hT.small
  have hnew : ∀ p ∈ (embox (uid * 64 + 1) cs).2.map nilP, lk st.s p.n = none ∧ p.n / 64 = uid := by
    intro p hp
    obtain ⟨q, hq, rfl⟩ := List.mem_map.1 hp
    have hd : (nilP q).n / 64 = uid := embox_name hb30 hq
    exact ⟨fresh_none R hfr hd, hd⟩
  have hmem : (⟨n, .box row', pl.hdr n, pl.adr n, pl.own n⟩ : Plc) ∈ ps := List.mem_cons_self ..
  have hW : ∀ b, Wr st pl pk b ↔ b = (pl.adr n).1 := by
    intro b
    constructor
    · rintro ⟨m, hm, hh, hb⟩
      rcases hm with hm | hm
      · rw [hnm] at hm
        obtain ⟨p, hp, rfl⟩ := List.mem_map.1 hm
        rcases List.mem_cons.1 hp with rfl | hp
        · simp only at hb; rw [hown] at hb; exact List.mem_singleton.1 hb
        · unfold St.has St.O at hh; rw [(hnew p hp).1] at hh; cases hh
      · cases hm
    · rintro rfl
      exact ⟨n, .inl (by rw [hnm]; exact List.mem_map.2 ⟨_, hmem, rfl⟩), hn, by rw [hown]; exact List.mem_singleton.2 rfl⟩
  have chg : Chg w w' (Wr st pl pk) := ⟨rfl, rfl, rfl, by simp [w', World.setRow], fun k hk hnk => setRow_other w _ k _ fun e => hnk ((hW k).2 e)⟩
  have old : ∀ p ∈ ps, ∀ o, lk st.s p.n = some o → o.like p.o ∧ p.h = pl.hdr p.n ∧ p.ad = pl.adr p.n := by
    intro p hp o ho'
    rcases List.mem_cons.1 hp with rfl | hp
    · rw [hob] at ho'; cases ho'; exact ⟨trivial, rfl, rfl⟩
    · rw [(hnew p hp).1] at ho'; cases ho'
  have N := stays R (dst := o.dst) hok hput chg old fun _ h => h
  have hks : ∀ m ∈ olds st pk.put ++ pk.del, m = n := by
    intro m hm
    rcases List.mem_append.1 hm with hm | hm
    · obtain ⟨h1, h2⟩ := olds_mem.1 hm
      rw [hnm] at h1
      obtain ⟨p, hp, rfl⟩ := List.mem_map.1 h1
      rcases List.mem_cons.1 hp with rfl | hp
      · rfl
      · unfold St.has St.O at h2; rw [(hnew p hp).1] at h2; cases h2
    · cases hm
  have hel : (embox (uid * 64 + 1) cs).1.length = cs.length := embox_len
  have hrowl : off + (embox (uid * 64 + 1) cs).1.length ≤ row.length := by rw [hel, hl]; exact hle
  have hu0 : cs.all (AV.inU st.u) = true := by rw [← hcs]; exact tv_inU e2u
  have hcsdrop : cs.map (AV.drop (olds st pk.put ++ pk.del)) = cs := by
    conv => rhs; rw [← List.map_id cs]
    refine List.map_congr_left fun av hav => ?_
    obtain ⟨k, hk, rfl⟩ := List.mem_iff_getElem.1 hav
    have hk' : k < (embox (uid * 64 + 1) cs).1.length := by rw [hel]; exact hk
    rcases embox_get (List.getElem?_eq_getElem hk') with ⟨h1, _⟩ | ⟨t', h1, h2, _⟩
    · rw [List.getElem?_eq_getElem hk] at h1
      simp only [Option.some.injEq] at h1
      refine keeps_drop (hkeep _ ?_) hks
      rw [h1]
      simp only [splice, List.mem_append]
      exact .inl (.inr (List.getElem_mem hk'))
    · rw [List.getElem?_eq_getElem hk] at h1
      simp only [Option.some.injEq] at h1
      rw [h1]; rfl
  have hars' := Ars.drop N hu0 hars
  rw [hcsdrop] at hars'
  have hhd : ∀ p ∈ (embox (uid * 64 + 1) cs).2, (over pl ps).hdr p.1 = .slice none 0 0 := fun p hp => (over_at (pl := pl) hu' (p := nilP p) (List.mem_cons_of_mem _ (List.mem_map.2 ⟨p, hp, rfl⟩))).1
  have hars2 := embox_ars (n := uid * 64 + 1) hars' hhd
  have hus := (R.us n _ hob).2
  have hinU : row'.all (AV.inU (uid :: st.u)) = true := by
    refine List.all_eq_true.2 fun av hav => ?_
    rcases splice_mem hav with h | h
    · exact AV.inU_mono (fun _ h => memN_cons h) (List.all_eq_true.1 hus av h)
    · refine List.all_eq_true.1 (embox_inU (List.all_eq_true.2 fun a ha => AV.inU_mono (fun _ h => memN_cons h) (List.all_eq_true.1 hu0 a ha)) fun p hp => ?_) av h
      exact mem_u (hnew (nilP p) (List.mem_map.2 ⟨p, hp, rfl⟩)).2
  have hnaE : ∀ av ∈ (embox (uid * 64 + 1) cs).1, av.isNa = false := by
    intro av hav
    obtain ⟨k, hk, rfl⟩ := List.mem_iff_getElem.1 hav
    rcases embox_get (List.getElem?_eq_getElem hk) with ⟨h1, _⟩ | ⟨t', h1, h2, _⟩
    · exact hnaC _ (List.mem_of_getElem? h1)
    · rw [h2]; rfl
  have hnaP : row'.map (fun a => !a.isNa) = row.map (fun a => !a.isNa) := by
    apply List.ext_getElem?
    intro k
    rw [List.getElem?_map, List.getElem?_map]
    simp only [row']
    rw [splice_get hrowl]
    split
    · rename_i hk
      have hk1 : k - off < (embox (uid * 64 + 1) cs).1.length := by omega
      have hk2 : k < row.length := by omega
      rw [List.getElem?_eq_getElem hk1, List.getElem?_eq_getElem hk2]
      simp only [Option.map_some, Option.some.injEq]
      rw [hnaE _ (List.getElem_mem hk1)]
      have h3 : noNa row[k] = true := hna _ (by
        rw [takeC_eq, dropC_eq]
        refine List.mem_of_getElem? (i := k - off) ?_
        rw [List.getElem?_take, if_pos (by omega), List.getElem?_drop, show off + (k - off) = k by omega, List.getElem?_eq_getElem hk2])
      generalize row[k] = b at h3
      cases b <;> first | rfl | cases h3
    · rfl
  have hlen' : row'.length = row.length := splice_len hrowl
  have S : Step P cx st w pl Z o.dst uid pk undef w' (over pl ps) Z := by
    refine Step.of R hok ps hput chg (R.frmW hob hc hcsz fun k hk => ?_) old (fun _ h => h) (fun _ h => .inl h) ?_ ?_ ?_ ?_ ?_
    · apply hcout
      intro hk'
      apply hk
      have hk2 : k - (pl.adr n).2 < row.length := by omega
      refine ⟨by omega, row[k - (pl.adr n).2], List.getElem?_eq_getElem hk2, ?_⟩
      have h3 : noNa row[k - (pl.adr n).2] = true := hna _ (by
        rw [takeC_eq, dropC_eq]
        refine List.mem_of_getElem? (i := k - (pl.adr n).2 - off) ?_
        rw [List.getElem?_take, if_pos (by omega), List.getElem?_drop, show off + (k - (pl.adr n).2 - off) = k - (pl.adr n).2 by omega, List.getElem?_eq_getElem hk2])
      generalize row[k - (pl.adr n).2] = b at h3
      cases b <;> first | rfl | cases h3
    · intro p hp
      rcases List.mem_cons.1 hp with rfl | hp'
      · refine ⟨⟨?_, c', ty, ?_, ?_, ?_⟩, R.nd n hn, hinU, fun b hb => ?_⟩
        · rw [(over_at (pl := pl) hu' hp).2.2, (over_at (pl := pl) hu' hp).2.1]; exact hown
        · rw [(over_at (pl := pl) hu' hp).2.1]; exact setRow_heap w _ c c' ty (0, 0) hc
        · rw [(over_at (pl := pl) hu' hp).2.1, hlen', hcsz]; exact hsz
        · intro k av y hk hy
          rw [(over_at (pl := pl) hu' hp).2.1] at hy
          have hy : c'[(pl.adr n).2 + k]? = some y := hy
          have hkm : av ∈ row' := List.mem_of_getElem? hk
          simp only [row'] at hk
          rw [splice_get hrowl] at hk
          split at hk
          · rename_i hin
            rw [hel, hl] at hin
            rw [hcin k hin] at hy
            exact hars2.2 _ av y hk hy
          · rename_i hin
            rw [hel, hl] at hin
            rw [hcout _ (by omega)] at hy
            have h1 := hr k av y hk hy
            have h2 := Ar.drop N (List.all_eq_true.1 hus av (List.mem_of_getElem? hk)) h1
            rw [keeps_drop (hkeep av hkm) hks] at h2
            exact h2
        · rw [hown] at hb
          have hb' := List.mem_singleton.1 hb
          subst hb'
          have h3 := R.lt n hn (pl.adr n).1 (by rw [hown]; exact List.mem_singleton.2 rfl)
          exact ⟨by simp only [w', World.setRow]; simpa using h3.1, h3.2.1, .inr ((hW _).2 rfl)⟩
      · obtain ⟨g1, g2, g3⟩ := over_at (pl := pl) hu' hp
        obtain ⟨h1, h2, h3, t', h4⟩ := nil_ob (P := P) (st' := apply st o.dst uid pk) (Z' := Z) (w' := w') hp' g1 g3
        refine ⟨h1, by rw [h2]; exact List.nodup_nil, by rw [h4]; rfl, fun b hb => by rw [h2] at hb; cases hb⟩
    · intro p hp q hq hne b hb
      rcases List.mem_cons.1 hq with rfl | hq'
      · rcases List.mem_cons.1 hp with rfl | hp'
        · exact absurd rfl hne
        · obtain ⟨p', _, rfl⟩ := List.mem_map.1 hp'; cases hb
      · obtain ⟨q', _, rfl⟩ := List.mem_map.1 hq'; exact List.not_mem_nil
    · intro d hd; exact ⟨trivial, rfl⟩
    · intro i hi p hp r' hr' had
      rcases List.mem_cons.1 hp with rfl | hp'
      · simp only [Ob.box.injEq] at hr'
        subst hr'
        obtain ⟨g1, g2⟩ := R.io i hi n row hob had
        exact ⟨g1, by rw [hnaP]; exact g2⟩
      · obtain ⟨p', hp'', rfl⟩ := List.mem_map.1 hp'
        obtain ⟨_, t', h2, _⟩ := embox_obs hp''
        simp only [nilP] at hr'; rw [h2] at hr'; cases hr'
    · intro i hi p hp ⟨t', rows, q, hq⟩
      rcases List.mem_cons.1 hp with rfl | hp'
      · cases hq
      · obtain ⟨p', _, rfl⟩ := List.mem_map.1 hp'; exact List.not_mem_nil
  unfold Oper.wp
  rw [hrun]
  exact hK _ _ _ _ S
end
end Go.AM
end
section
namespace Go.AM
open Go
set_option linter.unusedVariables false
theorem put_get {α : Type} {l d : List α} {p k : Nat} (h : p + d.length ≤ l.length) : (l.take p ++ d ++ l.drop (p + d.length))[k]? = if p ≤ k ∧ k < p + d.length then d[k - p]? else l[k]? := by
  rw [List.append_assoc]
  have e : (l.take p).length = p := by simp; omega
  by_cases h1 : k < p
  · rw [List.getElem?_append_left (by omega), List.getElem?_take, if_pos h1, if_neg (by omega)]
  · rw [List.getElem?_append_right (by omega), e]
    by_cases h2 : k < p + d.length
    · rw [List.getElem?_append_left (by omega), if_pos ⟨by omega, h2⟩]
    · rw [List.getElem?_append_right (by omega), List.getElem?_drop, if_neg (by omega)]
      congr 1; omega
theorem set_flat {α : Type} {m : Nat} {row' : List α} : ∀ {rows : List (List α)} {i : Nat}, (∀ r ∈ rows, r.length = m) → i < rows.length → (rows.set i row').flatten = rows.flatten.take (i * m) ++ row' ++ rows.flatten.drop (i * m + m)
  | [], i, _, h => by simp at h
  | r :: rs, 0, hw, _ => by
    have := hw r (by simp)
    simp [this]
  | r :: rs, i + 1, hw, h => by
    have hr := hw r (by simp)
    have ih := set_flat (row' := row') (rows := rs) (i := i) (fun r hr => hw r (by simp [hr])) (by simpa using h)
    simp only [List.set_cons_succ, List.flatten_cons, ih]
    rw [Nat.succ_mul, List.take_append, List.drop_append, hr]
    rw [List.take_of_length_le (l := r) (by omega), List.drop_eq_nil_of_le (as := r) (by omega)]
    rw [show i * m + m - m = i * m by omega, show i * m + m + m - m = i * m + m by omega]
    simp
theorem set_splice {rows : List (List AV)} {row cs : List AV} {m i off k : Nat} (hw : ∀ r ∈ rows, r.length = m) (hi : rows[i]? = some row) (hl : off + cs.length ≤ row.length) :
    (rows.set i (splice row off cs)).flatten[k]? = if i * m + off ≤ k ∧ k < i * m + off + cs.length then cs[k - (i * m + off)]? else rows.flatten[k]? := by
  have hil := (List.getElem?_eq_some_iff.1 hi).1
  have hrl := row_len hw hi
  have hsl := splice_len hl
  have hfl := flatten_len hw
  have hbd : i * m + m ≤ rows.length * m := by
    have : (i + 1) * m ≤ rows.length * m := Nat.mul_le_mul_right m hil
    rw [Nat.succ_mul] at this; exact this
  rw [set_flat hw hil]
  have := put_get (l := rows.flatten) (d := splice row off cs) (p := i * m) (k := k) (by rw [hsl, hrl, hfl]; exact hbd)
  rw [hsl, hrl] at this
  rw [this]
  by_cases h1 : i * m ≤ k ∧ k < i * m + m
  · rw [if_pos h1, splice_get hl]
    by_cases h2 : i * m + off ≤ k ∧ k < i * m + off + cs.length
    · rw [if_pos h2, if_pos (by omega)]
      congr 1; omega
    · rw [if_neg h2, if_neg (by omega)]
      have hk : k - i * m < row.length := by omega
      have := flat_at hw hi (List.getElem?_eq_getElem hk)
      rw [show i * m + (k - i * m) = k by omega] at this
      rw [this, List.getElem?_eq_getElem hk]
  · rw [if_neg h1, if_neg (by omega)]
section
variable {P : Program} {o : Oper} {uid : Nat}
theorem good_storeA {t : Nat} {ti : TI} {x v : Operand} (ho : o.op = .store t x v) (hT : TIok P t ti) {rx rv : List (Nat × TV)} {ro : List (Nat × Ob)} {n i off te : Nat} {p : Bool} {rows : List (List AV)} {row cs : List AV} {tv : TV} {ms : List Nat}
    (hx : Ev P x rx (.one (.ptr n i off))) (hv : Ev P v rv tv) (hl : (tvCells tv).length = ti.n) (hle : off + ti.n ≤ row.length) (hrow : rows[i]? = some row) (hcl : cs.length = (tvCells tv).length) (hnd : ms.Nodup) (hnm : n ∉ ms) (hms : ∀ m ∈ ms, ∃ t rows, lk ro m = some (.arr t rows false))
    (hcs : ∀ (P : Program) (cx : Cx) (st' : St) (a : Act) (w : World) (pl : Pl) (Z : Nat → Prop), Rel P cx st' a w pl Z → RdO ro st' → ∀ xs, Ars P st' pl Z w (tvCells tv) xs →
        ∃ fs : List (List Nat), fs.length = cs.length ∧ fs.flatten = ms.flatMap pl.own ∧ ∀ (k : Nat) (av : AV) (x : Value) (f : List Nat), cs[k]? = some av → xs[k]? = some x → fs[k]? = some f → Ow P w Z av x f) :
    Good P o uid ⟨rx ++ rv, (n, .arr te rows p) :: ro, .one .undef, [(n, .arr te (rows.set i (splice row off cs)) p)], ms.reverse⟩ := by
  intro cx st a w pl Z R ht hro hok K Q hK
  obtain ⟨ht1, ht2⟩ := RdT.append.1 ht
  obtain ⟨e1, _⟩ := hx cx st a w pl Z R ht1
  obtain ⟨e2, e2u⟩ := hv cx st a w pl Z R ht2
  have hob := (RdO.cons.1 hro).1
  have hro' := (RdO.cons.1 hro).2
  have hn : st.has n := by unfold St.has St.O; rw [hob]; rfl
  have hne : rows ≠ [] := by intro e; subst e; simp at hrow
  obtain ⟨g, cap, cur, cells, fs, hh, hg, hcap, hm, hsz, htake, hw, hcln, hfl, hr, hown⟩ := arr_mem R hob hne
  have hptr : a.eval x = .pointer (some ⟨g, i * P.cellsOf te + off, none⟩) := by
    have := e1 _ hob
    simpa [ptrAt, hh, Value.ownBlock] using this
  obtain ⟨hars, fs2, f1, f1', f2, f3⟩ := parts_cells (vs := [tv]) (xv := [a.eval v]) (n := ti.n) (rows := [cs]) (W := ms.flatMap pl.own)
    (fun j v' hj => by
      cases j with
      | zero => simp at hj; subst hj; exact ⟨a.eval v, rfl, e2⟩
      | succ j => simp at hj) rfl hT.pos (fun c hc => by simp at hc; subst hc; exact hl) rfl (fun r hr => by simp at hr; subst hr; omega)
    (fun xss hxl hxa => by
      match xss, hxl with
      | [xs], _ =>
        obtain ⟨fs, g1, g2, g3⟩ := hcs P cx st a w pl Z R hro' xs (hxa 0 _ _ rfl rfl)
        have hxs : xs.length = cs.length := by rw [(hxa 0 _ _ rfl rfl).1, hcl]
        exact ⟨fs, by simpa using g1, by simpa using hxs, g2, fun k av x f h1 h2 h3 => g3 k av x f (by simpa using h1) (by simpa using h2) h3⟩)
  have hars := hars 0 tv (a.eval v) rfl rfl
  simp only [List.map_cons, List.map_nil, List.flatten_cons, List.flatten_nil, List.append_nil] at f1 f1' f3
  generalize hvs : (a.eval v).cells.toList = vs at *
  have hvl : vs.length = ti.n := by rw [f1']; omega
  have hvsz : (a.eval v).cells.size = ti.n := by rw [← Array.length_toList, hvs, hvl]
  have hil : i < rows.length := (List.getElem?_eq_some_iff.1 hrow).1
  have hrl := row_len hw hrow
  have hbd : i * P.cellsOf te + P.cellsOf te ≤ rows.length * P.cellsOf te := by
    have : (i + 1) * P.cellsOf te ≤ rows.length * P.cellsOf te := Nat.mul_le_mul_right _ hil
    rw [Nat.succ_mul] at this; exact this
  have hcm : rows.length * P.cellsOf te ≤ cur.size := by rw [hsz]; exact Nat.mul_le_mul_right _ hcap
  generalize hpos : i * P.cellsOf te + off = pos at *
  have hpn : pos + ti.n ≤ rows.length * P.cellsOf te := by omega
  let c' : Array Value := (cur.toList.take pos ++ vs ++ cur.toList.drop (pos + ti.n)).toArray
  let w' := w.setRow g c'
  have hcsz : c'.size = cur.size := by simp [c', hvl]; omega
  have hcget : ∀ k : Nat, c'[k]? = if pos ≤ k ∧ k < pos + ti.n then vs[k - pos]? else cur[k]? := by
    intro k
    have := put_get (l := cur.toList) (d := vs) (p := pos) (k := k) (by rw [hvl, Array.length_toList]; omega)
    rw [hvl] at this
    simp only [c', List.getElem?_toArray, this, Array.getElem?_toList]
  have hrun : (execOp a.eval o).run P w = .ok .skip w' := by
    have := run_storeAt (P := P) (w := w) hT (g := g) (o := pos) (v := a.eval v) hg hvsz (by omega) (by
      rw [hvs]
      intro y hy
      obtain ⟨k, hk, rfl⟩ := List.mem_iff_getElem.1 hy
      have hk2 : k < cs.length := by omega
      exact (f3 k _ _ _ (List.getElem?_eq_getElem hk2) (List.getElem?_eq_getElem hk) (List.getElem?_eq_getElem (by omega))).oneCell)
    rw [hvs] at this
    simp only [execOp, ho, hptr, Sem.run_bind, this, Result.andThen_ok, Sem.run_pure]
    rfl
  let fs' := fs.take pos ++ fs2 ++ fs.drop (pos + fs2.length)
  have hf2l : fs2.length = ti.n := by rw [f1]; omega
  have hfget : ∀ k : Nat, fs'[k]? = if pos ≤ k ∧ k < pos + ti.n then fs2[k - pos]? else fs[k]? := by
    intro k
    have := put_get (l := fs) (d := fs2) (p := pos) (k := k) (by rw [hf2l, hfl, hcln]; exact hpn)
    rw [this, hf2l]
  have hmhas : ∀ m ∈ ms, ∃ t rows p, lk st.s m = some (.arr t rows p) := fun m hm => by
    obtain ⟨t, rows, h⟩ := hms m hm
    exact ⟨t, rows, false, hro' (m, _) (lk_mem h)⟩
  have hmh : ∀ m ∈ ms, st.has m := fun m hm => by obtain ⟨t, r, p, h⟩ := hmhas m hm; unfold St.has St.O; rw [h]; rfl
  have hin2 : ∀ b ∈ fs2.flatten, ∃ m ∈ ms, b ∈ pl.own m := fun b hb => by rw [f2] at hb; exact List.mem_flatMap.1 hb
  have hdis : ∀ b ∈ pl.own n, b ∉ fs2.flatten := by
    intro b hb hb2
    obtain ⟨m, hm, hbm⟩ := hin2 b hb2
    exact R.dj n m hn (hmh m hm) (fun e => hnm (by rw [e]; exact hm)) b hb hbm
  have hlt2 : ∀ b ∈ fs2.flatten, b < w.heap.size ∧ ¬ Z b := by
    intro b hb
    obtain ⟨m, hm, hbm⟩ := hin2 b hb
    exact ⟨(R.lt m (hmh m hm) b hbm).1, (R.lt m (hmh m hm) b hbm).2.1⟩
  have hnd0 : (g :: fs.flatten).Nodup := hown ▸ R.nd n hn
  have hgown : g ∈ pl.own n := by rw [hown]; simp
  have hg2 : g ∉ fs2.flatten := hdis g hgown
  have hgf : g ∉ fs.flatten := (List.nodup_cons.1 hnd0).1
  have hsubs : ∀ l ∈ fs', l ∈ fs ∨ l ∈ fs2 := by
    intro l hl
    simp only [fs', List.mem_append] at hl
    rcases hl with (h | h) | h
    · exact .inl (List.mem_of_mem_take h)
    · exact .inr h
    · exact .inl (List.mem_of_mem_drop h)
  have hsub : ∀ b ∈ fs'.flatten, b ∈ fs.flatten ∨ b ∈ fs2.flatten := by
    intro b hb
    obtain ⟨l, hl, hbl⟩ := List.mem_flatten.1 hb
    rcases hsubs l hl with h | h
    · exact .inl (List.mem_flatten.2 ⟨l, h, hbl⟩)
    · exact .inr (List.mem_flatten.2 ⟨l, h, hbl⟩)
  have hkeep : ∀ b, b ≠ g → w'.heap[b]? = w.heap[b]? := fun b hb => setRow_other w g b c' hb
  have hZ : ∀ b, Z b → w'.heap[b]? = w.heap[b]? := fun b hb => hkeep b fun e => (R.lt n hn g hgown).2.1 (e ▸ hb)
  have hOw : Ow P w' Z (.sl te (rows.set i (splice row off cs))) (pl.hdr n) (g :: fs'.flatten) := by
    have hcm' : rows.length * P.cellsOf te ≤ c'.size := by omega
    have h1 : w'.ownsRow 0 te (P.cellsOf te) (pl.hdr n) (rows.set i (splice row off cs)).length (c'.toList.take (rows.length * P.cellsOf te)) := by
      rw [List.length_set, hh]
      exact ⟨by simp; omega, .inr ⟨g, cap, c', rfl, Nat.zero_le _, setRow_heap w g cur c' te (0, 0) hg, hcap, hm, by rw [hcsz, hsz], rfl⟩⟩
    have := Ow.sl (P := P) (Z := Z) (fs := fs') (by rw [List.length_set]; exact Ow.max (R.obj n _ hob)) (fun r hr => by
        rcases List.mem_or_eq_of_mem_set hr with h | h
        · exact hw r h
        · rw [h, splice_len (by omega)]; exact hrl) h1 (by simp [fs', hf2l, hfl, hcln]; omega) fun k av y f hk hy hf => by
      rw [set_splice hw hrow (by omega), hpos, show cs.length = ti.n by omega] at hk
      rw [hfget] at hf
      rw [List.getElem?_take] at hy
      split at hy
      · rename_i hkl
        rw [Array.getElem?_toList, hcget] at hy
        split at hk
        · rename_i hin
          rw [if_pos hin] at hf hy
          refine (f3 _ av y f hk hy hf).mono (fun _ h => h) hZ fun b hb => hkeep b fun e => hg2 ?_
          rw [← e]; exact flat_sub hf b hb
        · rename_i hin
          rw [if_neg hin] at hf hy
          have hy' : cells[k]? = some y := by rw [← htake, List.getElem?_take, if_pos hkl]; simpa using hy
          refine (hr _ av y f hk hy' hf).mono (fun _ h => h) hZ fun b hb => hkeep b fun e => hgf ?_
          rw [← e]; exact flat_sub hf b hb
      · cases hy
    have hob' : (pl.hdr n).ownBlock = some g := by rw [hh]; rfl
    rw [hob'] at this
    exact this
  have hnd' : (g :: fs'.flatten).Nodup := by
    refine List.nodup_cons.2 ⟨fun h => (hsub g h).elim hgf hg2, ?_⟩
    have hfn : fs.flatten.Nodup := (List.nodup_cons.1 hnd0).2
    have h2n : fs2.flatten.Nodup := by rw [f2]; exact own_nodup R hnd hmh
    have e : fs'.flatten = (fs.take pos).flatten ++ (fs2.flatten ++ (fs.drop (pos + fs2.length)).flatten) := by simp [fs', List.append_assoc]
    rw [e, (List.perm_append_comm_assoc _ _ _).nodup_iff]
    have hsl : List.Sublist ((fs.take pos).flatten ++ (fs.drop (pos + fs2.length)).flatten) fs.flatten := by
      have e2 : fs.flatten = (fs.take pos).flatten ++ (((fs.drop pos).take fs2.length).flatten ++ (fs.drop (pos + fs2.length)).flatten) := by
        conv => lhs; rw [← List.take_append_drop pos fs, List.flatten_append, ← List.take_append_drop fs2.length (fs.drop pos), List.flatten_append, List.drop_drop]
      rw [e2]
      exact List.Sublist.append (List.Sublist.refl _) (List.sublist_append_right _ _)
    refine List.nodup_append.2 ⟨h2n, hsl.nodup hfn, fun b hb c hc e => ?_⟩
    subst e
    exact hdis b (by rw [hown]; exact List.mem_cons_of_mem _ (hsl.subset hc)) hb
  let pk : Pk := ⟨rx ++ rv, (n, .arr te rows p) :: ro, .one .undef, [(n, .arr te (rows.set i (splice row off cs)) p)], ms.reverse⟩
  let ps : List Plc := [⟨n, .arr te (rows.set i (splice row off cs)) p, pl.hdr n, pl.adr n, g :: fs'.flatten⟩]
  have hput : pk.put = ps.map fun p => (p.n, p.o) := rfl
  have hu' : uniqN (ps.map (·.n)) = true := okPk_uniq hok
  have hmem : (⟨n, .arr te (rows.set i (splice row off cs)) p, pl.hdr n, pl.adr n, g :: fs'.flatten⟩ : Plc) ∈ ps := List.mem_cons_self ..
  have hW : ∀ b, Wr st pl pk b ↔ b ∈ pl.own n ∨ ∃ m ∈ ms, b ∈ pl.own m := by
    intro b
    constructor
    · rintro ⟨m, hm, hh, hb⟩
      rcases hm with hm | hm
      · simp [pk, names] at hm; subst hm; exact .inl hb
      · exact .inr ⟨m, by simpa [pk] using hm, hb⟩
    · rintro (hb | ⟨m, hm, hb⟩)
      · exact ⟨n, .inl (by simp [pk, names]), hn, hb⟩
      · exact ⟨m, .inr (by simpa [pk] using hm), hmh m hm, hb⟩
  have chg : Chg w w' (Wr st pl pk) := ⟨rfl, rfl, rfl, by simp [w', World.setRow], fun k hk hnk => hkeep k fun e => hnk ((hW k).2 (.inl (e ▸ hgown)))⟩
  have S : Step P cx st w pl Z o.dst uid pk undef w' (over pl ps) Z := by
    refine Step.of R hok ps hput chg (R.frm chg fun b hb => ?_) ?_ (fun _ h => h) (fun _ h => .inl h) ?_ ?_ ?_ ?_ ?_
    · rcases (hW b).1 hb with h | ⟨m, hm, h⟩
      · exact ⟨n, te, rows, p, hob, h⟩
      · obtain ⟨t, r, q, hl⟩ := hmhas m hm; exact ⟨m, t, r, q, hl, h⟩
    · intro q hq o' ho'
      rw [List.mem_singleton.1 hq] at ho' ⊢
      simp only at ho'
      rw [hob] at ho'; cases ho'; exact ⟨rfl, rfl, rfl⟩
    · intro q hq
      rw [List.mem_singleton.1 hq]
      refine ⟨?_, hnd', rfl, fun b hb => ⟨hOw.lt b hb, ?_, .inr ((hW b).2 ?_)⟩⟩
      · show Ow P w' Z (.sl te (rows.set i (splice row off cs))) _ _
        rw [(over_at (pl := pl) hu' hmem).1, (over_at (pl := pl) hu' hmem).2.2]
        exact hOw
      · rcases List.mem_cons.1 hb with rfl | hb
        · exact (R.lt n hn _ hgown).2.1
        · rcases hsub b hb with h | h
          · exact (R.lt n hn b (by rw [hown]; exact List.mem_cons_of_mem _ h)).2.1
          · exact (hlt2 b h).2
      · rcases List.mem_cons.1 hb with rfl | hb
        · exact .inl hgown
        · rcases hsub b hb with h | h
          · exact .inl (by rw [hown]; exact List.mem_cons_of_mem _ h)
          · exact .inr (hin2 b h)
    · intro q hq q' hq' hne
      rw [List.mem_singleton.1 hq, List.mem_singleton.1 hq'] at hne
      exact absurd rfl hne
    · intro d _; exact ⟨trivial, rfl⟩
    · intro j hj q hq r' hr'
      rw [List.mem_singleton.1 hq] at hr'; cases hr'
    · intro j hj q hq _
      rw [List.mem_singleton.1 hq]
      intro hb
      rcases List.mem_cons.1 hb with e | hb
      · exact R.ioa j hj n te rows p hob (by rw [e]; exact hgown)
      · rcases hsub _ hb with h | h
        · exact R.ioa j hj n te rows p hob (by rw [hown]; exact List.mem_cons_of_mem _ h)
        · obtain ⟨m, hm, hbm⟩ := hin2 _ h
          obtain ⟨t, r, q', hl⟩ := hmhas m hm
          exact R.ioa j hj m t r q' hl hbm
  unfold Oper.wp
  rw [hrun]
  exact hK _ _ _ _ S
end
end Go.AM
end
section
namespace Go.AM
open Go
set_option linter.unusedVariables false
theorem RdO.mem {ro : List (Nat × Ob)} {st : St} (h : RdO ro st) {n : Nat} {o : Ob} (hl : lk ro n = some o) : lk st.s n = some o := h (n, o) (lk_mem hl)
theorem Sup.mono {pl : Pl} {Z : Nat → Prop} {ns ns' : List Nat} (h : ∀ n ∈ ns, n ∈ ns') {b : Nat} (hb : Sup pl Z ns b) : Sup pl Z ns' b := by
  rcases hb with hb | ⟨n, hn, hb⟩
  · exact .inl hb
  · exact .inr ⟨n, h n hn, hb⟩
def LendOk (st : St) (v a : AV) (ns : List Nat) (ro : List (Nat × Ob)) : Prop :=
  RdO ro st ∧ (∀ n ∈ ns, ∃ o, lk ro n = some o) ∧ ∀ (P : Program) (cx : Cx) (st' : St) (act : Act) (w : World) (pl : Pl) (Z : Nat → Prop), Rel P cx st' act w pl Z → RdO ro st' → ∀ x, Ar P st' pl Z w v x → Rd P w (Sup pl Z ns) a x
theorem alive_names {st : St} : ∀ {ns : List Nat} {k : List (Nat × Ob) → Prop}, alive st ns k → ∃ ro, k ro ∧ RdO ro st ∧ (∀ n ∈ ns, ∃ o, lk ro n = some o)
  | [], k, h => ⟨[], h, RdO.nil, by simp⟩
  | n :: r, k, h => by
    simp only [alive] at h
    split at h
    · rename_i o ho
      obtain ⟨ro, h1, h2, h3⟩ := alive_names h
      refine ⟨(n, o) :: ro, h1, RdO.cons.2 ⟨ho, h2⟩, fun m hm => ?_⟩
      rw [lk_cons]
      rcases List.mem_cons.1 hm with rfl | hm
      · exact ⟨o, if_pos rfl⟩
      · split
        · exact ⟨o, rfl⟩
        · exact h3 m hm
    · exact h.elim
theorem has_of {ro : List (Nat × Ob)} {st : St} (h : RdO ro st) {ns : List Nat} (hn : ∀ n ∈ ns, ∃ o, lk ro n = some o) : ∀ n ∈ ns, st.has n := fun n hm => by
  obtain ⟨o, ho⟩ := hn n hm
  unfold St.has St.O; rw [h.mem ho]; rfl
theorem lend1_sound {st : St} {v : AV} {k : AV → List Nat → List (Nat × Ob) → Prop} (h : lend1 st v k) : ∃ a ns ro, k a ns ro ∧ LendOk st v a ns ro := by
  cases v with
  | prim v => exact ⟨_, _, _, h, RdO.nil, by simp, fun P cx st' act w pl Z R hr x hx => by obtain ⟨rfl, h⟩ := hx; exact .prim h⟩
  | emp t =>
    refine ⟨_, _, _, h, RdO.nil, by simp, fun P cx st' act w pl Z R hr x hx => ?_⟩
    rw [show x = .slice none 0 0 from hx]
    exact .sl (cells := []) (by simp) rfl (Nat.le_refl _) (by simp) (by simp) (fun h => absurd rfl h) (fun b o k x h => by cases h) (fun k av x h => by simp at h)
  | fr ns t rows =>
    obtain ⟨ro, h, h0, hn⟩ := alive_names h
    exact ⟨_, _, _, h, h0, hn, fun P cx st' act w pl Z R hr x hx => hx (has_of hr hn)⟩
  | fp ns row o =>
    obtain ⟨ro, h, h0, hn⟩ := alive_names h
    exact ⟨_, _, _, h, h0, hn, fun P cx st' act w pl Z R hr x hx => hx (has_of hr hn)⟩
  | ref n =>
    simp only [lend1] at h
    split at h
    · rename_i t rows p ho
      refine ⟨_, _, _, h, RdO.cons.2 ⟨ho, RdO.nil⟩, fun m hm => ⟨.arr t rows p, by rw [lk_cons, if_pos (List.mem_singleton.1 hm).symm]⟩, fun P cx st' act w pl Z R hr x hx => ?_⟩
      have ho' := (RdO.cons.1 hr).1
      rw [hx t rows p ho']
      have : Ow P w Z (.sl t rows) (pl.hdr n) (pl.own n) := R.obj n _ ho'
      exact this.rd (fun b hb => .inr ⟨n, by simp, hb⟩) fun b hb => .inl hb
    · exact h.elim
  | undef => exact h.elim
  | na => exact h.elim
  | sl t rows => exact h.elim
  | ptr n i off => exact h.elim
  | fn f caps => exact h.elim
theorem names_append {ro ro' : List (Nat × Ob)} {ns ns' : List Nat} (h : ∀ n ∈ ns, ∃ o, lk ro n = some o) (h' : ∀ n ∈ ns', ∃ o, lk ro' n = some o) : ∀ n ∈ ns ++ ns', ∃ o, lk (ro ++ ro') n = some o := by
  intro n hn
  rw [lk_append]
  cases hl : lk ro n with
  | some o => exact ⟨o, rfl⟩
  | none =>
    rcases List.mem_append.1 hn with hn | hn
    · obtain ⟨o, ho⟩ := h n hn; rw [hl] at ho; cases ho
    · obtain ⟨o, ho⟩ := h' n hn; exact ⟨o, by simpa using ho⟩
def LendsOk (st : St) (vs as1 : List AV) (ns : List Nat) (ro : List (Nat × Ob)) : Prop :=
  RdO ro st ∧ (∀ n ∈ ns, ∃ o, lk ro n = some o) ∧ as1.length = vs.length ∧ ∀ (P : Program) (cx : Cx) (st' : St) (act : Act) (w : World) (pl : Pl) (Z : Nat → Prop), Rel P cx st' act w pl Z → RdO ro st' → ∀ xs, Ars P st' pl Z w vs xs → Rds P w (Sup pl Z ns) as1 xs
theorem LendsOk.cons {st : St} {v a : AV} {vs as1 : List AV} {ns ns' : List Nat} {ro ro' : List (Nat × Ob)} (h : LendOk st v a ns ro) (h' : LendsOk st vs as1 ns' ro') : LendsOk st (v :: vs) (a :: as1) (ns ++ ns') (ro ++ ro') := by
  obtain ⟨h1, h2, h3⟩ := h
  obtain ⟨g1, g2, g3, g4⟩ := h'
  refine ⟨RdO.append.2 ⟨h1, g1⟩, names_append h2 g2, by simp [g3], fun P cx st' act w pl Z R hr xs hx => ?_⟩
  obtain ⟨hr1, hr2⟩ := RdO.append.1 hr
  match xs, hx with
  | [], hx => exact absurd hx.1 (by simp)
  | x :: xs, hx =>
    have e1 := (h3 P cx st' act w pl Z R hr1 x (hx.2 0 _ _ rfl rfl)).mono (S' := Sup pl Z (ns ++ ns')) (fun b hb => Sup.mono (fun n hn => List.mem_append_left _ hn) hb) fun _ _ => rfl
    have e2 := g4 P cx st' act w pl Z R hr2 xs ⟨by simpa using hx.1, fun k av y hk hy => hx.2 (k + 1) av y (by simpa using hk) (by simpa using hy)⟩
    refine ⟨by simp [e2.1], fun k av y hk hy => ?_⟩
    cases k with
    | zero => simp at hk hy; subst hk; subst hy; exact e1
    | succ k => exact (e2.2 k av y (by simpa using hk) (by simpa using hy)).mono (fun b hb => Sup.mono (fun n hn => List.mem_append_right _ hn) hb) fun _ _ => rfl
theorem lends_sound {st : St} : ∀ {vs : List AV} {k : List AV → List Nat → List (Nat × Ob) → Prop}, lends st vs k → ∃ as1 ns ro, k as1 ns ro ∧ LendsOk st vs as1 ns ro
  | [], k, h => ⟨_, _, _, h, RdO.nil, by simp, rfl, fun P cx st' act w pl Z R hr xs hx => ⟨hx.1, fun k av x hk => by simp at hk⟩⟩
  | v :: r, k, h => by
    obtain ⟨a, ns, ro, h, h1⟩ := lend1_sound h
    obtain ⟨as1, ns', ro', h, h2⟩ := lends_sound h
    exact ⟨_, _, _, h, LendsOk.cons h1 h2⟩
theorem lendCap_sound {st : St} {v : AV} {k : AV → List Nat → List (Nat × Ob) → Prop} (h : lendCap st v k) : ∃ a ns ro, k a ns ro ∧ LendOk st v a ns ro := by
  unfold lendCap at h
  split at h
  · rename_i n o
    split at h
    · rename_i row ho
      obtain ⟨as1, ns, ro, h, h1, h2, h2', h3⟩ := lends_sound h
      refine ⟨_, _, _, h, RdO.cons.2 ⟨ho, h1⟩, fun m hm => ?_, fun P cx st' act w pl Z R hr x hx => ?_⟩
      · rw [lk_cons]
        rcases List.mem_cons.1 hm with rfl | hm
        · exact ⟨_, if_pos rfl⟩
        · split
          · exact ⟨_, rfl⟩
          · exact h2 m hm
      · obtain ⟨hr1, hr2⟩ := RdO.cons.1 hr
        rw [hx _ hr1]
        obtain ⟨hown, c, ty, hc, hsz, hcell⟩ := R.obj n _ hr1
        let xs := (c.toList.drop (pl.adr n).2).take row.length
        have hxl : xs.length = row.length := by simp [xs]; omega
        have hars : Ars P st' pl Z w row xs := ⟨hxl, fun k av y hk hy => by
          obtain ⟨_, hy'⟩ := seg_xs hy
          exact hcell k av y hk (by simpa using hy')⟩
        have hrd := h3 P cx st' act w pl Z R hr2 xs hars
        refine .fp (o := (pl.adr n).2) (cells := xs) (.inr ⟨n, by simp, by rw [hown]; exact List.mem_singleton.2 rfl⟩) (by rw [hxl, h2']) (fun k x hk => ?_) fun k av y hk hy => ?_
        · obtain ⟨_, hk'⟩ := seg_xs hk
          rw [cell_of_row w _ _ c ty (0, 0) hc]
          simpa using hk'
        · exact (hrd.2 k av y hk hy).mono (fun b hb => Sup.mono (fun n hn => List.mem_cons_of_mem _ hn) hb) fun _ _ => rfl
    · exact h.elim
  · exact lend1_sound h
theorem lendCaps_sound {st : St} : ∀ {vs : List AV} {k : List AV → List Nat → List (Nat × Ob) → Prop}, lendCaps st vs k → ∃ as1 ns ro, k as1 ns ro ∧ LendsOk st vs as1 ns ro
  | [], k, h => ⟨_, _, _, h, RdO.nil, by simp, rfl, fun P cx st' act w pl Z R hr xs hx => ⟨hx.1, fun k av x hk => by simp at hk⟩⟩
  | v :: r, k, h => by
    obtain ⟨a, ns, ro, h, h1⟩ := lendCap_sound h
    obtain ⟨as1, ns', ro', h, h2⟩ := lendCaps_sound h
    exact ⟨_, _, _, h, LendsOk.cons h1 h2⟩
def LendVOk (st : St) (v a : TV) (ns : List Nat) (ro : List (Nat × Ob)) : Prop :=
  RdO ro st ∧ (∀ n ∈ ns, ∃ o, lk ro n = some o) ∧ ∀ (P : Program) (cx : Cx) (st' : St) (act : Act) (w : World) (pl : Pl) (Z : Nat → Prop) (S : Nat → Prop), Rel P cx st' act w pl Z → RdO ro st' → (∀ b, Sup pl Z ns b → S b) → ∀ x io, Tr P st' pl Z w v x → InR P w S io .pure a x []
theorem A0_of_noFn {P : Program} {st : St} {pl : Pl} {Z : Nat → Prop} {w : World} {v : AV} {x : Value} (h : A0 P st pl Z w v x) (hv : noFn v = true) : Ar P st pl Z w v x := by
  cases v <;> first | exact h | cases hv
theorem lendV_sound {st : St} {v : TV} {k : TV → List Nat → List (Nat × Ob) → Prop} (h : lendV st v k) : ∃ a ns ro, k a ns ro ∧ LendVOk st v a ns ro := by
  have one : ∀ {v a : AV} {ns : List Nat} {ro : List (Nat × Ob)}, LendOk st v a ns ro → LendVOk st (.one v) (.one a) ns ro := by
    intro v a ns ro ⟨h1, h2, h3⟩
    exact ⟨h1, h2, fun P cx st' act w pl Z S R hr hS x io hx => .pone ((h3 P cx st' act w pl Z R hr x hx).mono hS fun _ _ => rfl)⟩
  unfold lendV at h
  split at h
  · rename_i f caps
    obtain ⟨as1, ns, ro, h, h1, h2, h3, h4⟩ := lendCaps_sound h
    refine ⟨_, _, _, h, h1, h2, fun P cx st' act w pl Z S R hr hS x io hx => .pone ?_⟩
    obtain ⟨arr, rfl, hl, hc⟩ := hx
    by_cases hcap : ∀ c ∈ caps, noFn c = true
    · have := h4 P cx st' act w pl Z R hr arr ⟨hl, fun k av y hk hy => A0_of_noFn (hc k av y hk hy) (hcap _ (List.mem_of_getElem? hk))⟩
      exact .fn this.1 fun k av y hk hy => (this.2 k av y hk hy).mono hS fun _ _ => rfl
    · exfalso
      simp only [Classical.not_forall, Bool.not_eq_true] at hcap
      obtain ⟨c, hc', hn⟩ := hcap
      obtain ⟨k, hk, rfl⟩ := List.mem_iff_getElem.1 hc'
      have := hc k _ _ (List.getElem?_eq_getElem hk) (List.getElem?_eq_getElem (hl ▸ hk))
      generalize caps[k] = c at this hn
      cases c <;> first | exact this | cases hn
  · obtain ⟨a, ns, ro, h, h1⟩ := lendCap_sound h
    exact ⟨_, _, _, h, one h1⟩
  · obtain ⟨a, ns, ro, h, h1⟩ := lend1_sound h
    exact ⟨_, _, _, h, one h1⟩
  · obtain ⟨as1, ns, ro, h, h1, h2, h3, h4⟩ := lends_sound h
    refine ⟨_, _, _, h, h1, h2, fun P cx st' act w pl Z S R hr hS x io hx => ?_⟩
    obtain ⟨xs, rfl, hx⟩ := hx
    have := h4 P cx st' act w pl Z R hr xs hx
    exact .pagg ⟨this.1, fun k av y hk hy => (this.2 k av y hk hy).mono hS fun _ _ => rfl⟩
  · exact h.elim
def GathOk (st : St) (vs : List TV) (del : List Nat) (ins : List (Mode × TV)) (lent : List Nat) (ro : List (Nat × Ob)) (ds : List Nat) : Prop :=
  RdO ro st ∧ (∀ n ∈ lent, ∃ o, lk ro n = some o) ∧ ds.Nodup ∧ (∀ m ∈ ds, m ∉ del) ∧ (∀ m ∈ ds, ∃ t rows, lk ro m = some (.arr t rows false)) ∧
    ∀ (P : Program) (cx : Cx) (st' : St) (a : Act) (w : World) (pl : Pl) (Z : Nat → Prop) (S : Nat → Prop), Rel P cx st' a w pl Z → RdO ro st' → (∀ b, Sup pl Z lent b → S b) → ∀ (io : Option Io) (xs : List Value), xs.length = vs.length →
      (∀ (j : Nat) (v : TV) (x : Value), vs[j]? = some v → xs[j]? = some x → Tr P st' pl Z w v x) → InsR P w S io ins xs (ds.flatMap pl.own)
theorem gath_sound {st : St} : ∀ {ms : List Mode} {vs : List TV} {del : List Nat} {k : List (Mode × TV) → List Nat → List (Nat × Ob) → List Nat → Prop}, gath st ms vs del k →
    ∃ (ins : List (Mode × TV)) (lent : List Nat) (ro : List (Nat × Ob)) (ds : List Nat), k ins lent ro (ds.reverse ++ del) ∧ GathOk st vs del ins lent ro ds
  | ms, [], del, k, h => ⟨[], [], [], [], by simpa [gath] using h, RdO.nil, by simp, List.nodup_nil, by simp, by simp, fun P cx st' a w pl Z S R hr hS io xs hl hx => by
      have : xs = [] := List.eq_nil_of_length_eq_zero (by simpa using hl)
      subst this; exact .nil⟩
  | ms, v :: r, del, k, h => by
    have own : ∀ {v : TV} {cells : List AV} {mk : List AV → TV}, rowCells st cells del (fun cs ro d => gath st ms.tail r d fun ins lent ro' d' => k ((.own, mk cs) :: ins) lent (ro ++ ro') d') →
        (∀ (cs : List AV) (P : Program) (st' : St) (w : World) (pl : Pl) (Z S : Nat → Prop) (io : Option Io) (x : Value) (f : List Nat), cs.length = cells.length → (∀ b, Z b → S b) → Tr P st' pl Z w v x →
          (∀ xs, Ars P st' pl Z w cells xs → Ows P w Z cs xs f) → InR P w S io .own (mk cs) x f) →
        ∃ (ins : List (Mode × TV)) (lent : List Nat) (ro : List (Nat × Ob)) (ds : List Nat), k ins lent ro (ds.reverse ++ del) ∧ GathOk st (v :: r) del ins lent ro ds := by
      intro v cells mk h hin
      obtain ⟨row, ro, dd, h, h1, h2, h3, h4, h5, h6⟩ := rowCells_sound h
      obtain ⟨ins, lent, ro', ds, h, g1, g2, g3, g4, g5, g6⟩ := gath_sound h
      refine ⟨(.own, mk row) :: ins, lent, ro ++ ro', dd ++ ds, by simpa [List.reverse_append, List.append_assoc] using h, RdO.append.2 ⟨h1, g1⟩, fun n hn => ?_, ?_, ?_, ?_, ?_⟩
      · exact names_append (ns := []) (by simp) g2 n (by simpa using hn)
      · exact List.nodup_append.2 ⟨h3, g3, fun p hp q hq e => by subst e; exact g4 p hq (by simp [hp])⟩
      · intro q hq
        rcases List.mem_append.1 hq with hq | hq
        · exact h4 q hq
        · exact fun hd => g4 q hq (by simp [hd])
      · intro q hq
        rw [lk_append]
        rcases List.mem_append.1 hq with hq | hq
        · obtain ⟨t, rows, e⟩ := h5 q hq; exact ⟨t, rows, by rw [e]; rfl⟩
        · obtain ⟨t, rows, e⟩ := g5 q hq
          cases hl : lk ro q with
          | none => exact ⟨t, rows, by simpa using e⟩
          | some o =>
            have e1 := h1.mem hl
            have e2 := g1.mem e
            rw [e1] at e2
            exact ⟨t, rows, by simpa using e2⟩
      · intro P cx st' a w pl Z S R hr hS io xs hl hx
        obtain ⟨hr1, hr2⟩ := RdO.append.1 hr
        match xs, hl with
        | x :: xs, hl =>
          have hrest := g6 P cx st' a w pl Z S R hr2 hS io xs (by simpa using hl) fun j v x hv hx' => hx (j + 1) v x (by simpa using hv) (by simpa using hx')
          rw [List.flatMap_append]
          refine .cons (hin row P st' w pl Z S io x _ h2 (fun b hb => hS b (.inl hb)) (hx 0 _ _ rfl rfl) fun ys hys => ?_) hrest
          obtain ⟨fs, e1, e2, e3⟩ := h6 P cx st' a w pl Z R hr1 ys hys
          exact ⟨fs, e2.symm, e1, by rw [hys.1, h2], e3⟩
    have hmono : ∀ {P : Program} {w : World} {Z S : Nat → Prop} {cs : List AV} {xs : List Value} {f : List Nat}, (∀ b, Z b → S b) → Ows P w Z cs xs f → Ows P w S cs xs f := by
      intro P w Z S cs xs f hZ ⟨fs, e1, e2, e3, e4⟩
      exact ⟨fs, e1, e2, e3, fun k av x g h1 h2 h3 => (e4 k av x g h1 h2 h3).mono hZ (fun _ _ => rfl) (fun _ _ => rfl)⟩
    simp only [gath] at h
    split at h
    · rename_i b hm
      refine own (v := .one b) (mk := fun cs => mkTV false cs) h fun cs P st' w pl Z S io x f hl hZ hx hys => ?_
      match cs, hl with
      | [c], _ =>
        obtain ⟨fs, e1, e2, e3, e4⟩ := hmono hZ (hys [x] ⟨rfl, fun k av y hk hy => by
          cases k with
          | zero => simp at hk hy; subst hk; subst hy; exact hx
          | succ k => simp at hk⟩)
        match fs, e2 with
        | [g], _ =>
          simp at e1; subst e1
          exact .oone (e4 0 c x _ rfl rfl rfl)
    · rename_i as1 hm
      refine own (v := .agg as1) (mk := fun cs => .agg cs) h fun cs P st' w pl Z S io x f hl hZ hx hys => ?_
      obtain ⟨xs, rfl, hxs⟩ := hx
      exact .oagg (hmono hZ (hys xs hxs))
    · rename_i v hm
      obtain ⟨a, ns, ro, h, h1, h2, h3⟩ := lendV_sound h
      obtain ⟨ins, lent, ro', ds, h, g1, g2, g3, g4, g5, g6⟩ := gath_sound h
      refine ⟨(.pure, a) :: ins, ns ++ lent, ro ++ ro', ds, h, RdO.append.2 ⟨h1, g1⟩, names_append h2 g2, g3, g4, fun q hq => ?_, fun P cx st' act w pl Z S R hr hS io xs hl hx => ?_⟩
      · rw [lk_append]
        obtain ⟨t, rows, e⟩ := g5 q hq
        cases hl : lk ro q with
        | none => exact ⟨t, rows, by simpa using e⟩
        | some o =>
          have e1 := h1.mem hl
          have e2 := g1.mem e
          rw [e1] at e2
          exact ⟨t, rows, by simpa using e2⟩
      · obtain ⟨hr1, hr2⟩ := RdO.append.1 hr
        match xs, hl with
        | x :: xs, hl =>
          have hrest := g6 P cx st' act w pl Z S R hr2 (fun b hb => hS b (Sup.mono (fun n hn => List.mem_append_right _ hn) hb)) io xs (by simpa using hl) fun j v x hv hx' => hx (j + 1) v x (by simpa using hv) (by simpa using hx')
          exact .cons (f := []) (h3 P cx st' act w pl Z S R hr1 (fun b hb => hS b (Sup.mono (fun n hn => List.mem_append_left _ hn) hb)) x io (hx 0 _ _ rfl rfl)) hrest
    · exact h.elim
end Go.AM
end
section
namespace Go.AM
open Go
set_option linter.unusedVariables false
def fplc (kp : Bool) : Nat → List AV → List Value → List (List Nat) → List Plc
  | n, .sl t rows :: r, x :: xs, f :: fs => bif kp then ⟨n, .arr t rows false, x, (0, 0), f⟩ :: fplc kp (n + 1) r xs fs else fplc kp (n + 1) r xs fs
  | n, _ :: r, _ :: xs, _ :: fs => fplc kp (n + 1) r xs fs
  | _, _, _, _ => []
theorem fresh_tail {kp : Bool} {lent : List Nat} {n : Nat} {c : AV} {r : List AV} : ∃ c' os, (fresh kp lent n (c :: r)).1 = c' :: (fresh kp lent (n + 1) r).1 ∧ (fresh kp lent n (c :: r)).2 = os ++ (fresh kp lent (n + 1) r).2 ∧
    ((∃ t rows, c = .sl t rows ∧ kp = true ∧ c' = .ref n ∧ os = [(n, .arr t rows false)]) ∨ (∃ t rows, c = .sl t rows ∧ kp = false ∧ c' = .fr lent t rows ∧ os = []) ∨ (∃ t rows, c = .fr [] t rows ∧ c' = .fr lent t rows ∧ os = []) ∨
      (∃ v, c = .prim v ∧ c' = .prim v ∧ os = []) ∨ (c' = .undef ∧ os = [] ∧ ∀ t rows, c ≠ .sl t rows)) := by
  cases c
  case sl t rows => cases kp
                    · exact ⟨_, _, rfl, by simp [fresh], .inr (.inl ⟨t, rows, rfl, rfl, rfl, rfl⟩)⟩
                    · exact ⟨_, _, rfl, by simp [fresh], .inl ⟨t, rows, rfl, rfl, rfl, rfl⟩⟩
  case fr ns t rows => cases ns
                       · exact ⟨_, [], rfl, rfl, .inr (.inr (.inl ⟨t, rows, rfl, rfl, rfl⟩))⟩
                       · exact ⟨_, [], rfl, rfl, .inr (.inr (.inr (.inr ⟨rfl, rfl, by simp⟩)))⟩
  case prim v => exact ⟨_, [], rfl, rfl, .inr (.inr (.inr (.inl ⟨v, rfl, rfl, rfl⟩)))⟩
  all_goals exact ⟨_, [], rfl, rfl, .inr (.inr (.inr (.inr ⟨rfl, rfl, by simp⟩)))⟩
theorem fresh_len {kp : Bool} {lent : List Nat} : ∀ {cs : List AV} {n : Nat}, (fresh kp lent n cs).1.length = cs.length
  | [], n => rfl
  | c :: r, n => by
    obtain ⟨c', os, h1, _⟩ := fresh_tail (kp := kp) (lent := lent) (n := n) (c := c) (r := r)
    rw [h1]; simp [fresh_len (cs := r)]
theorem fresh_get {kp : Bool} {lent : List Nat} : ∀ {cs : List AV} {n k : Nat} {c : AV}, cs[k]? = some c → ∃ c', (fresh kp lent n cs).1[k]? = some c' ∧
    ((∃ t rows, c = .sl t rows ∧ kp = true ∧ c' = .ref (n + k)) ∨ (∃ t rows, c = .sl t rows ∧ kp = false ∧ c' = .fr lent t rows) ∨ (∃ t rows, c = .fr [] t rows ∧ c' = .fr lent t rows) ∨ (∃ v, c = .prim v ∧ c' = .prim v) ∨ c' = .undef)
  | [], n, k, c, h => by simp at h
  | c0 :: r, n, 0, c, h => by
    simp at h; subst h
    obtain ⟨c', os, h1, h2, h3⟩ := fresh_tail (kp := kp) (lent := lent) (n := n) (c := c0) (r := r)
    refine ⟨c', by rw [h1]; rfl, ?_⟩
    rcases h3 with ⟨t, rows, e1, e2, e3, _⟩ | ⟨t, rows, e1, e2, e3, _⟩ | ⟨t, rows, e1, e3, _⟩ | ⟨v, e1, e3, _⟩ | ⟨e3, _⟩
    · exact .inl ⟨t, rows, e1, e2, e3⟩
    · exact .inr (.inl ⟨t, rows, e1, e2, e3⟩)
    · exact .inr (.inr (.inl ⟨t, rows, e1, e3⟩))
    · exact .inr (.inr (.inr (.inl ⟨v, e1, e3⟩)))
    · exact .inr (.inr (.inr (.inr e3)))
  | c0 :: r, n, k + 1, c, h => by
    obtain ⟨c', os, h1, h2, h3⟩ := fresh_tail (kp := kp) (lent := lent) (n := n) (c := c0) (r := r)
    obtain ⟨c'', g1, g2⟩ := fresh_get (kp := kp) (lent := lent) (n := n + 1) (k := k) (by simpa using h)
    rw [show n + 1 + k = n + (k + 1) by omega] at g2
    exact ⟨c'', by rw [h1]; simpa using g1, g2⟩
theorem fplc_map {kp : Bool} {lent : List Nat} : ∀ {cs : List AV} {n : Nat} {xs : List Value} {fs : List (List Nat)}, xs.length = cs.length → fs.length = cs.length → (fplc kp n cs xs fs).map (fun p => (p.n, p.o)) = (fresh kp lent n cs).2
  | [], n, [], [], _, _ => rfl
  | c :: r, n, x :: xs, f :: fs, h1, h2 => by
    have ih := fplc_map (kp := kp) (lent := lent) (cs := r) (n := n + 1) (xs := xs) (fs := fs) (by simpa using h1) (by simpa using h2)
    obtain ⟨c', os, g1, g2, g3⟩ := fresh_tail (kp := kp) (lent := lent) (n := n) (c := c) (r := r)
    rw [g2]
    cases c
    case sl t rows => cases kp
                      · rcases g3 with ⟨t, rows, e1, e2, e3, e4⟩ | ⟨t, rows, e1, e2, e3, e4⟩ | ⟨t, rows, e1, e3, e4⟩ | ⟨v, e1, e3, e4⟩ | ⟨e3, e4, e5⟩
                        · cases e2
                        · rw [e4]; exact ih
                        · cases e1
                        · cases e1
                        · rw [e4]; exact ih
                      · rcases g3 with ⟨t, rows, e1, e2, e3, e4⟩ | ⟨t, rows, e1, e2, e3, e4⟩ | ⟨t, rows, e1, e3, e4⟩ | ⟨v, e1, e3, e4⟩ | ⟨e3, e4, e5⟩
                        · cases e1; rw [e4]; simp only [fplc, cond_true, List.map_cons, ih]; rfl
                        · cases e2
                        · cases e1
                        · cases e1
                        · exact absurd rfl (e5 _ _)
    all_goals
      rcases g3 with ⟨t, rows, e1, e2, e3, e4⟩ | ⟨t, rows, e1, e2, e3, e4⟩ | ⟨t, rows, e1, e3, e4⟩ | ⟨v, e1, e3, e4⟩ | ⟨e3, e4, e5⟩
      · cases e1
      · cases e1
      all_goals (rw [e4]; exact ih)
theorem fplc_mem {kp : Bool} : ∀ {cs : List AV} {n : Nat} {xs : List Value} {fs : List (List Nat)} {p : Plc}, p ∈ fplc kp n cs xs fs → kp = true ∧ ∃ k t rows x f, cs[k]? = some (.sl t rows) ∧ xs[k]? = some x ∧ fs[k]? = some f ∧ p = ⟨n + k, .arr t rows false, x, (0, 0), f⟩
  | [], n, xs, fs, p, h => by cases xs <;> cases fs <;> simp [fplc] at h
  | c :: r, n, [], fs, p, h => by cases c <;> simp [fplc] at h
  | c :: r, n, x :: xs, [], p, h => by cases c <;> simp [fplc] at h
  | c :: r, n, x :: xs, f :: fs, p, h => by
    have tl : p ∈ fplc kp (n + 1) r xs fs → kp = true ∧ ∃ k t rows x' f', (c :: r)[k]? = some (.sl t rows) ∧ (x :: xs)[k]? = some x' ∧ (f :: fs)[k]? = some f' ∧ p = ⟨n + k, .arr t rows false, x', (0, 0), f'⟩ := fun h => by
      obtain ⟨h1, k, t, rows, x', f', h2, h3, h4, h5⟩ := fplc_mem h
      exact ⟨h1, k + 1, t, rows, x', f', by simpa using h2, by simpa using h3, by simpa using h4, by rw [h5]; congr 1; omega⟩
    cases c <;> simp only [fplc] at h
    case sl t rows =>
      cases kp
      · exact tl h
      · simp only [cond_true] at h
        rcases List.mem_cons.1 h with rfl | h
        · exact ⟨rfl, 0, t, rows, x, f, rfl, rfl, rfl, rfl⟩
        · exact tl h
    all_goals exact tl h
theorem fplc_at {kp : Bool} (hk : kp = true) : ∀ {cs : List AV} {n : Nat} {xs : List Value} {fs : List (List Nat)} {k t : Nat} {rows : List (List AV)} {x : Value} {f : List Nat}, cs[k]? = some (.sl t rows) → xs[k]? = some x → fs[k]? = some f → (⟨n + k, .arr t rows false, x, (0, 0), f⟩ : Plc) ∈ fplc kp n cs xs fs
  | c :: r, n, y :: xs, g :: fs, 0, t, rows, x, f, h1, h2, h3 => by
    simp at h1 h2 h3; subst h1; subst h2; subst h3; subst hk
    simp [fplc]
  | c :: r, n, y :: xs, g :: fs, k + 1, t, rows, x, f, h1, h2, h3 => by
    have ih := fplc_at hk (cs := r) (n := n + 1) (xs := xs) (fs := fs) (k := k) (by simpa using h1) (by simpa using h2) (by simpa using h3)
    rw [show n + 1 + k = n + (k + 1) by omega] at ih
    cases c <;> simp only [fplc]
    case sl t' rows' => cases kp
                        · exact ih
                        · exact List.mem_cons_of_mem _ ih
    all_goals exact ih
  | [], _, _, _, _, _, _, _, _, h, _, _ => by simp at h
  | _ :: _, _, [], _, _, _, _, _, _, _, h, _ => by simp at h
  | _ :: _, _, _ :: _, [], _, _, _, _, _, _, _, h => by simp at h
theorem keptOk_spec {kp : Bool} {lent : List Nat} : ∀ {cs : List AV} {k : Prop}, keptOk kp lent cs k → k ∧ (kp = true → lent ≠ [] → ∀ t rows, AV.sl t rows ∈ cs → allPrim rows)
  | [], k, h => ⟨h, by simp⟩
  | c :: r, k, h => by
    have tl : keptOk kp lent r k → (∀ t rows, c = .sl t rows → kp = true → lent ≠ [] → allPrim rows) → k ∧ (kp = true → lent ≠ [] → ∀ t rows, AV.sl t rows ∈ c :: r → allPrim rows) := fun h hc => by
      obtain ⟨h1, h2⟩ := keptOk_spec h
      refine ⟨h1, fun e1 e2 t rows hm => ?_⟩
      rcases List.mem_cons.1 hm with e | hm
      · exact hc t rows e.symm e1 e2
      · exact h2 e1 e2 t rows hm
    cases c <;> simp only [keptOk] at h
    case sl t rows =>
      split at h
      · exact tl h.2 fun t rows e _ _ => by cases e; exact h.1
      · rename_i hx
        refine tl h fun t rows e e1 e2 => ?_
        cases lent with
        | nil => exact absurd rfl e2
        | cons a l => exact (hx a l e1 rfl).elim
    all_goals exact tl h fun t rows e => by cases e
theorem Ow.primRows {P : Program} {w : World} {Z Z' : Nat → Prop} {t : Nat} {rows : List (List AV)} {x : Value} {f : List Nat} (h : Ow P w Z (.sl t rows) x f) (hp : allPrim rows) : Ow P w Z' (.sl t rows) x f := by
  cases h with
  | @sl _ _ _ cells fs hm hw ho hf hr =>
    refine .sl hm hw ho hf fun k av y g h1 h2 h3 => ?_
    obtain ⟨row, hr', hm⟩ := flatten_mem h1
    obtain ⟨v, rfl⟩ := hp row hr' av hm
    have := hr k _ y g h1 h2 h3
    cases this with
    | prim h => exact .prim h
theorem fresh_ars {P : Program} {st' : St} {pl' : Pl} {Z' Zn : Nat → Prop} {w' : World} {kp : Bool} {lent : List Nat} {n : Nat} {cs : List AV} {xs : List Value} {fs : List (List Nat)} (hx : xs.length = cs.length) (hf : fs.length = cs.length)
    (how : ∀ (k : Nat) (av : AV) (x : Value) (g : List Nat), cs[k]? = some av → xs[k]? = some x → fs[k]? = some g → Ow P w' Z' av x g)
    (hS : ∀ b, Z' b → Sup pl' Zn lent b) (hfz : kp = false → ∀ b ∈ fs.flatten, Zn b)
    (hobj : ∀ p ∈ fplc kp n cs xs fs, pl'.hdr p.n = p.h ∧ lk st'.s p.n = some p.o) : Ars P st' pl' Zn w' (fresh kp lent n cs).1 xs := by
  refine ⟨by rw [fresh_len, hx], fun k av y hk hy => ?_⟩
  have hkl : k < cs.length := by rw [← hx]; exact (List.getElem?_eq_some_iff.1 hy).1
  have hkf : k < fs.length := by omega
  have hO := how k _ y _ (List.getElem?_eq_getElem hkl) hy (List.getElem?_eq_getElem hkf)
  obtain ⟨c', h1, h2⟩ := fresh_get (kp := kp) (lent := lent) (n := n) (List.getElem?_eq_getElem hkl)
  rw [hk] at h1; cases h1
  rcases h2 with ⟨t, rows, e1, e2, rfl⟩ | ⟨t, rows, e1, e2, rfl⟩ | ⟨t, rows, e1, rfl⟩ | ⟨v, e1, rfl⟩ | rfl
  · have hm := fplc_at e2 (n := n) (by rw [← e1]; exact List.getElem?_eq_getElem hkl) hy (List.getElem?_eq_getElem hkf)
    intro t' rows' p ho
    exact ((hobj _ hm).1).symm
  · rw [e1] at hO
    intro _
    refine hO.rd (fun b hb => .inl (hfz e2 b (flat_sub (List.getElem?_eq_getElem hkf) b hb))) hS
  · rw [e1] at hO
    intro _
    generalize fs[k] = g at hO
    cases hO with
    | fr0 h => exact h.mono hS fun _ _ => rfl
  · rw [e1] at hO
    generalize fs[k] = g at hO
    cases hO with
    | prim h => exact ⟨rfl, h⟩
  · trivial
theorem fresh_inU {u : List Nat} {kp : Bool} {lent : List Nat} {n : Nat} {cs : List AV} (hl : ∀ m ∈ lent, memN (m / 64) u = true) (hn : kp = true → ∀ (k t : Nat) (rows : List (List AV)), cs[k]? = some (.sl t rows) → memN ((n + k) / 64) u = true) : (fresh kp lent n cs).1.all (AV.inU u) = true := by
  refine List.all_eq_true.2 fun av hav => ?_
  obtain ⟨k, hk, rfl⟩ := List.mem_iff_getElem.1 hav
  have hkl : k < cs.length := by rw [fresh_len] at hk; exact hk
  obtain ⟨c', h1, h2⟩ := fresh_get (kp := kp) (lent := lent) (n := n) (List.getElem?_eq_getElem hkl)
  rw [List.getElem?_eq_getElem hk] at h1
  simp only [Option.some.injEq] at h1
  rw [h1]
  rcases h2 with ⟨t, rows, e1, e2, rfl⟩ | ⟨t, rows, e1, e2, rfl⟩ | ⟨t, rows, e1, rfl⟩ | ⟨v, e1, rfl⟩ | rfl
  · exact hn e2 k t rows (by rw [← e1]; exact List.getElem?_eq_getElem hkl)
  · simp only [AV.inU, List.all_eq_true]; exact hl
  · simp only [AV.inU, List.all_eq_true]; exact hl
  · rfl
  · rfl
end Go.AM
end
section
namespace Go.AM
open Go
set_option linter.unusedVariables false
def ZNew (Z Z2 : Nat → Prop) (fin ff : List Nat) (size : Nat) (b : Nat) : Prop := Z b ∨ (Z2 b ∧ (b ∈ fin ∨ size ≤ b)) ∨ b ∈ ff
section
variable {P : Program} {cx : Cx} {st : St} {a : Act} {w : World} {pl : Pl} {Z : Nat → Prop}
theorem io_lt (R : Rel P cx st a w pl Z) {i : Io} (hi : cx.io = some i) : i.b < w.heap.size := by
  obtain ⟨c, c', ty, e1, e2, e3, e4⟩ := R.fr.iob i hi
  exact (Array.getElem?_eq_some_iff.1 e2).1
theorem call_step (R : Rel P cx st a w pl Z) {dst : Option Nat} {uid : Nat} {pk : Pk} {ps : List Plc} {lent ds : List Nat} (hdel : pk.del = ds.reverse) (hok : okPk st uid pk = true) (hput : pk.put = ps.map fun p => (p.n, p.o))
    (hds : ∀ m ∈ ds, ∃ t rows p, lk st.s m = some (.arr t rows p)) (hnd : ds.Nodup) (hlent : ∀ m ∈ lent, st.has m) (hfr : ∀ p ∈ ps, lk st.s p.n = none)
    {w' : World} {Z2 : Nat → Prop} {ff : List Nat} {v : Value} (hF : Frm w w' (ds.flatMap pl.own) none) (hZ : ∀ b, Sup pl Z lent b → Z2 b) (hZ2 : ∀ b, Z2 b → (Sup pl Z lent b ∨ b ∈ ds.flatMap pl.own ∨ w.heap.size ≤ b) ∧ b < w'.heap.size)
    (hff : ∀ b ∈ ff, (b ∈ ds.flatMap pl.own ∨ w.heap.size ≤ b) ∧ b < w'.heap.size) (hb : ∀ p ∈ ps, p.f.Nodup ∧ ∀ b ∈ p.f, (b ∈ ds.flatMap pl.own ∨ w.heap.size ≤ b) ∧ b < w'.heap.size ∧ ¬ Z2 b ∧ b ∉ ff)
    (hdj : ∀ p ∈ ps, ∀ q ∈ ps, p.n ≠ q.n → ∀ b ∈ p.f, b ∉ q.f) (hbox : ∀ p ∈ ps, ∀ row, p.o = .box row → p.ad.1 ∈ p.f)
    (hob : (∀ b, Z2 b → Sup (over pl ps) (ZNew Z Z2 (ds.flatMap pl.own) ff w.heap.size) lent b) → ∀ p ∈ ps, ObR P (apply st dst uid pk) (over pl ps) (ZNew Z Z2 (ds.flatMap pl.own) ff w.heap.size) w' p.n p.o ∧ p.o.inU (uid :: st.u) = true)
    (hval : (∀ b, Z2 b → Sup (over pl ps) (ZNew Z Z2 (ds.flatMap pl.own) ff w.heap.size) lent b) → Tr P (apply st dst uid pk) (over pl ps) (ZNew Z Z2 (ds.flatMap pl.own) ff w.heap.size) w' pk.val v ∧ pk.val.inU (uid :: st.u) = true) :
    Step P cx st w pl Z dst uid pk v w' (over pl ps) (ZNew Z Z2 (ds.flatMap pl.own) ff w.heap.size) := by
  have hdh : ∀ m ∈ ds, st.has m := fun m hm => by obtain ⟨t, r, p, h⟩ := hds m hm; unfold St.has St.O; rw [h]; rfl
  have hnm : names pk.put = ps.map (·.n) := by rw [hput, names_map]
  have hu' : uniqN (ps.map (·.n)) = true := by have := okPk_uniq hok; rw [← hnm]; exact this
  have hW : ∀ b, Wr st pl pk b ↔ b ∈ ds.flatMap pl.own := by
    intro b
    constructor
    · rintro ⟨n, hn | hn, hh, hb⟩
      · rw [hnm] at hn
        obtain ⟨p, hp, rfl⟩ := List.mem_map.1 hn
        unfold St.has St.O at hh; rw [hfr p hp] at hh; cases hh
      · exact List.mem_flatMap.2 ⟨n, by rw [hdel] at hn; simpa using hn, hb⟩
    · intro hb
      obtain ⟨m, hm, hb⟩ := List.mem_flatMap.1 hb
      exact ⟨m, .inr (by rw [hdel]; simpa using hm), hdh m hm, hb⟩
  have chg : Chg w w' (Wr st pl pk) := ⟨hF.os, hF.tape, hF.output, hF.size, fun k hk hnk => hF.blk k hk (fun h => hnk ((hW k).2 h)) fun i hi => by cases hi⟩
  have hfin : ∀ b ∈ ds.flatMap pl.own, b < w.heap.size ∧ ¬ Z b ∧ cx.may b ∧ ∀ i, cx.io = some i → b ≠ i.b := by
    intro b hb
    obtain ⟨m, hm, hb⟩ := List.mem_flatMap.1 hb
    obtain ⟨h1, h2, h3⟩ := R.lt m (hdh m hm) b hb
    refine ⟨h1, h2, h3, fun i hi e => ?_⟩
    obtain ⟨t, r, p, h⟩ := hds m hm
    exact R.ioa i hi m t r p h (e ▸ hb)
  have hmay : ∀ b, (b ∈ ds.flatMap pl.own ∨ w.heap.size ≤ b) → cx.mayZ b := by
    intro b hb
    rcases hb with hb | hb
    · obtain ⟨h1, h2, h3, h4⟩ := hfin b hb
      refine ⟨?_, h4⟩
      rcases h3 with h | ⟨i, hi, e⟩ | h
      · exact .inr (.inl h)
      · exact absurd e (h4 i hi)
      · exact .inr (.inr h)
    · exact ⟨.inr (.inr (Nat.le_trans R.fr.size hb)), fun i hi e => by have := io_lt R hi; omega⟩
  have hsup : ∀ b, Z2 b → Sup (over pl ps) (ZNew Z Z2 (ds.flatMap pl.own) ff w.heap.size) lent b := by
    intro b hb
    rcases (hZ2 b hb).1 with (h | ⟨m, hm, h⟩) | h | h
    · exact .inl (.inl h)
    · refine .inr ⟨m, hm, ?_⟩
      rw [(over_not (pl := pl) (ps := ps) (n := m) (fun hmm => ?_)).2.2]
      · exact h
      · obtain ⟨p, hp, e⟩ := List.mem_map.1 hmm
        have := hlent m hm
        unfold St.has St.O at this; rw [← e, hfr p hp] at this; cases this
    · exact .inl (.inr (.inl ⟨hb, .inl h⟩))
    · exact .inl (.inr (.inl ⟨hb, .inr h⟩))
  refine Step.of R hok ps hput chg (R.frm chg fun b hb => ?_) (fun p hp o ho => by rw [hfr p hp] at ho; cases ho) (fun b h => .inl h) (fun b h => ?_) (fun p hp => ?_) hdj (fun d _ => hval hsup) (fun i hi p hp row hr had => ?_) fun i hi p hp _ hbi => ?_
  · obtain ⟨m, hm, h⟩ := List.mem_flatMap.1 ((hW b).1 hb)
    obtain ⟨t, r, p, hl⟩ := hds m hm
    exact ⟨m, t, r, p, hl, h⟩
  · rcases h with h | ⟨h1, h2⟩ | h
    · exact .inl h
    · exact .inr ⟨h2.imp_left (hW b).2, (hZ2 b h1).2, hmay b h2⟩
    · obtain ⟨h1, h2⟩ := hff b h
      exact .inr ⟨h1.imp_left (hW b).2, h2, hmay b h1⟩
  · obtain ⟨h1, h2⟩ := hob hsup p hp
    obtain ⟨h3, h4⟩ := hb p hp
    refine ⟨h1, h3, h2, fun b hbf => ?_⟩
    obtain ⟨g1, g2, g3, g4⟩ := h4 b hbf
    refine ⟨g2, ?_, ?_⟩
    · rintro (h | ⟨h, _⟩ | h)
      · exact g3 (hZ b (.inl h))
      · exact g3 h
      · exact g4 h
    · rcases g1 with h | h
      · exact .inr ((hW b).2 h)
      · exact .inl h
  · have h1 := hbox p hp row hr
    obtain ⟨g1, _⟩ := (hb p hp).2 _ h1
    rcases g1 with h | h
    · exact absurd had ((hfin _ h).2.2.2 i hi)
    · have := io_lt R hi; omega
  · obtain ⟨g1, _⟩ := (hb p hp).2 _ hbi
    rcases g1 with h | h
    · exact absurd rfl ((hfin _ h).2.2.2 i hi)
    · have := io_lt R hi; omega
theorem regroup_len : ∀ {vs : List (Bool × List AV)} {l : List AV}, (regroup vs l).length = vs.length
  | [], _ => rfl
  | (a, cs) :: r, l => by simp [regroup, regroup_len (vs := r)]
theorem tup_flat {w : World} {Z : Nat → Prop} : ∀ {vs : List (Bool × List AV)} {xs : List Value} {fs : List (List Nat)}, xs.length = vs.length → fs.length = vs.length →
    (∀ (k : Nat) (a : Bool) (cs : List AV) (x : Value) (f : List Nat), vs[k]? = some (a, cs) → xs[k]? = some x → fs[k]? = some f → ∃ ys : List Value, Ows P w Z cs ys f ∧ x = bif a then .agg ys.toArray else ys.getD 0 undef) →
    ∃ (cells : List Value) (gs : List (List Nat)), cells.length = (vs.flatMap (·.2)).length ∧ gs.length = (vs.flatMap (·.2)).length ∧ gs.flatten = fs.flatten ∧
      (∀ (k : Nat) (av : AV) (x : Value) (g : List Nat), (vs.flatMap (·.2))[k]? = some av → cells[k]? = some x → gs[k]? = some g → Ow P w Z av x g) ∧
      ∀ (st : St) (pl : Pl) (Z' : Nat → Prop) (L : List AV), Ars P st pl Z' w L cells → ∀ (k : Nat) (a : Bool) (cs : List AV) (y : Value), (regroup vs L)[k]? = some (a, cs) → xs[k]? = some y → ∃ ys : List Value, Ars P st pl Z' w cs ys ∧ y = bif a then .agg ys.toArray else ys.getD 0 undef
  | [], [], [], _, _, _ => ⟨[], [], rfl, rfl, rfl, by simp, by simp [regroup]⟩
  | (a, cs) :: r, x :: xs, f :: fs, h1, h2, h => by
    obtain ⟨cells, gs, e1, e2, e3, e4, e5⟩ := tup_flat (vs := r) (xs := xs) (fs := fs) (by simpa using h1) (by simpa using h2) fun k a cs x f h1 h2 h3 => h (k + 1) a cs x f (by simpa using h1) (by simpa using h2) (by simpa using h3)
    obtain ⟨ys, ⟨gs0, g1, g2, g3, g4⟩, hx⟩ := h 0 a cs x f rfl rfl rfl
    refine ⟨ys ++ cells, gs0 ++ gs, by simp [e1, g3], by simp [e2, g2], by simp [e3, g1], fun k av y g hk hy hg => ?_, fun st pl Z' L hL k a' cs' y hk hy => ?_⟩
    · have hk : (cs ++ r.flatMap (·.2))[k]? = some av := by simpa [List.flatMap_cons] using hk
      by_cases hkl : k < cs.length
      · rw [List.getElem?_append_left hkl] at hk
        rw [List.getElem?_append_left (by omega)] at hy hg
        exact g4 k av y g hk hy hg
      · rw [List.getElem?_append_right (by omega)] at hk hy hg
        rw [g3] at hy; rw [g2] at hg
        exact e4 _ av y g hk hy hg
    · have hLl : L.length = ys.length + cells.length := by rw [← hL.1]; simp
      cases k with
      | zero =>
        simp [regroup] at hk hy
        obtain ⟨rfl, rfl⟩ := hk
        subst hy
        refine ⟨ys, ⟨?_, fun k av y hk hy => ?_⟩, hx⟩
        · rw [takeC_eq]; simp; omega
        · rw [takeC_eq, List.getElem?_take] at hk
          split at hk
          · rename_i hlt
            exact hL.2 k av y hk (by rw [List.getElem?_append_left (by omega)]; exact hy)
          · cases hk
      | succ k =>
        simp [regroup] at hk hy
        refine e5 st pl Z' (dropC cs.length L) ⟨?_, fun k av y hk hy => ?_⟩ k a' cs' y hk hy
        · rw [dropC_eq]; simp; omega
        · rw [dropC_eq, List.getElem?_drop] at hk
          exact hL.2 _ av y hk (by rw [List.getElem?_append_right (by omega), show cs.length + k - ys.length = k by omega]; exact hy)
theorem res_flat {w' : World} {Z2 : Nat → Prop} {res : TV} {v : Value} {f : List Nat} (h : ResR P w' Z2 res v f) (kp : Bool) (lent : List Nat) (n : Nat) :
    (∃ (cs : List AV) (xs : List Value) (fs : List (List Nat)), xs.length = cs.length ∧ fs.length = cs.length ∧ f = fs.flatten ∧ (∀ (k : Nat) (av : AV) (x : Value) (g : List Nat), cs[k]? = some av → xs[k]? = some x → fs[k]? = some g → Ow P w' Z2 av x g) ∧
      (freshV kp lent n res).2 = (fresh kp lent n cs).2 ∧ (∀ k : Prop, keptV kp lent res k = keptOk kp lent cs k) ∧ (∀ u, (fresh kp lent n cs).1.all (AV.inU u) = true → (freshV kp lent n res).1.inU u = true) ∧
      ∀ (st' : St) (pl' : Pl) (Z' : Nat → Prop), Ars P st' pl' Z' w' (fresh kp lent n cs).1 xs → Tr P st' pl' Z' w' (freshV kp lent n res).1 v) ∨
    (∃ (row : List AV) (b o : Nat) (c : Array Value) (ty : Nat) (fs : List (List Nat)), v = .pointer (some ⟨b, o, none⟩) ∧ w'.heap[b]? = some (.cells c ty (0, 0)) ∧ o + row.length ≤ c.size ∧ fs.length = row.length ∧ f = b :: fs.flatten ∧
      (∀ (k : Nat) (av : AV) (x : Value) (g : List Nat), row[k]? = some av → c[o + k]? = some x → fs[k]? = some g → Ow P w' Z2 av x g) ∧
      freshV kp lent n res = (.one (.ptr n 0 0), (n, .box (fresh kp lent (n + 1) row).1) :: (fresh kp lent (n + 1) row).2) ∧ ∀ k : Prop, keptV kp lent res k = keptOk kp lent row k) := by
  cases h with
  | @one av x f h =>
    by_cases hfp : ∃ row, av = .fp [] row 0
    · obtain ⟨row, rfl⟩ := hfp
      refine .inr ?_
      cases h with
      | @fp _ b o c ty fs hb hn hf hr => exact ⟨row, b, o, c, ty, fs, rfl, hb, hn, hf, rfl, hr, rfl, fun k => rfl⟩
    · refine .inl ⟨[av], [v], [f], rfl, rfl, by simp, fun k a x g hk hx hg => ?_, ?_⟩
      · cases k with
        | zero => simp at hk hx hg; subst hk; subst hx; subst hg; exact h
        | succ k => simp at hk
      · have e : freshV kp lent n (.one av) = (mkTV false (fresh kp lent n [av]).1, (fresh kp lent n [av]).2) := by
          unfold freshV
          split
          · rename_i row heq; simp only [TV.one.injEq] at heq; exact absurd ⟨row, heq⟩ hfp
          · rename_i heq; simp only [TV.one.injEq] at heq; subst heq; rfl
          · rename_i heq; cases heq
          · rename_i heq; cases heq
        have e2 : ∀ k : Prop, keptV kp lent (.one av) k = keptOk kp lent [av] k := by
          intro k
          unfold keptV
          split
          · rename_i row heq; simp only [TV.one.injEq] at heq; exact absurd ⟨row, heq⟩ hfp
          · rename_i heq; simp only [TV.one.injEq] at heq; subst heq; rfl
          · rename_i heq; cases heq
          · rename_i heq; cases heq
        rw [e]
        obtain ⟨c', hc'⟩ : ∃ c', (fresh kp lent n [av]).1 = [c'] := List.length_eq_one_iff.1 (fresh_len (cs := [av]))
        refine ⟨rfl, e2, fun u hu => by rw [hc'] at hu ⊢; simpa [mkTV, TV.inU] using hu, fun st' pl' Z' ha => ?_⟩
        rw [hc'] at ha ⊢
        exact ha.2 0 c' v rfl rfl
  | @agg cs xs f h =>
    obtain ⟨fs, g1, g2, g3, g4⟩ := h
    exact .inl ⟨cs, xs, fs, g3, g2, g1, g4, rfl, fun _ => rfl, fun u hu => hu, fun st' pl' Z' ha => ⟨xs, rfl, ha⟩⟩
  | @tup vs xs fs hx hf h =>
    obtain ⟨cells, gs, e1, e2, e3, e4, e5⟩ := tup_flat hx hf h
    refine .inl ⟨vs.flatMap (·.2), cells, gs, e1, e2, e3.symm, e4, rfl, fun _ => rfl, fun u hu => ?_, fun st' pl' Z' ha => ⟨xs, rfl, by rw [regroup_len]; exact hx, e5 st' pl' Z' _ ha⟩⟩
    simp only [freshV, TV.inU]
    refine List.all_eq_true.2 fun p hp => ?_
    have : ∀ {vs : List (Bool × List AV)} {L : List AV}, p ∈ regroup vs L → ∀ a ∈ p.2, a ∈ L := by
      intro vs
      induction vs with
      | nil => intro L h; simp [regroup] at h
      | cons q r ih =>
        intro L h a ha
        obtain ⟨a0, cs⟩ := q
        simp only [regroup] at h
        rcases List.mem_cons.1 h with rfl | h
        · rw [takeC_eq] at ha; exact List.mem_of_mem_take ha
        · have := ih h a ha; rw [dropC_eq] at this; exact List.mem_of_mem_drop this
    exact List.all_eq_true.2 fun a ha => List.all_eq_true.1 hu a (this hp a ha)
end
end Go.AM
end
section
namespace Go.AM
open Go
set_option linter.unusedVariables false
theorem nodup_flat {fs : List (List Nat)} (h : fs.flatten.Nodup) : (∀ l ∈ fs, l.Nodup) ∧ fs.Pairwise fun a b => ∀ x ∈ a, x ∉ b := by
  obtain ⟨h1, h2⟩ := List.pairwise_flatten.1 h
  exact ⟨h1, h2.imp fun h x hx hy => h x hx x hy rfl⟩
theorem namesIn_spec {uid : Nat} : ∀ {l : List (Nat × Ob)}, namesIn uid l = true → ∀ p ∈ l, p.1 / 64 = uid
  | [], _, p, hp => by cases hp
  | (q1, q2) :: r, h, p, hp => by
    simp only [namesIn] at h
    cases hb : Nat.beq (q1 / 64) uid <;> rw [hb] at h
    · cases h
    · rcases List.mem_cons.1 hp with rfl | hp
      · exact Nat.eq_of_beq_eq_true hb
      · exact namesIn_spec h p hp
theorem run_callFn {P : Program} {o : Oper} {w : World} {a : Act} {c : Call} {x : Operand} {f : Nat} {capsV : Array Value} (ho : o.op = .call c) (hc : c.callee = .value x) (hx : a.eval x = .func (.func f) #[] capsV)
    (hf : ∃ fn, P.funcs[f]? = some fn ∧ fn.body.isNone = false ∧ (fn.name == "runtime.NumGoroutine") = false) : (execOp a.eval o).run P w = .ok (.enter f (c.args.map a.eval ++ capsV)) w := by
  obtain ⟨fn, h1, h2, h3⟩ := hf
  have h2' : ¬ fn.body = none := by intro e; rw [e] at h2; simp at h2
  have h3' : ¬ fn.name = "runtime.NumGoroutine" := by simpa using h3
  simp [execOp, ho, resolve, hc, hx, Deferred.ofValue, invoke, callFunc, h1, h2', h3']
section
variable {P : Program} {o : Oper} {uid : Nat}
theorem good_call {c : Call} {fo : Operand} {f : Nat} (ho : o.op = .call c) (hc : c.callee = .value fo) {rt : List (Nat × TV)} {args : List TV}
    (hargs : ∀ (cx : Cx) (st : St) (a : Act) (w : World) (pl : Pl) (Z : Nat → Prop), Rel P cx st a w pl Z → RdT rt st → ∃ capsV : Array Value, a.eval fo = .func (.func f) #[] capsV ∧ (c.args.map a.eval ++ capsV).toList.length = args.length ∧
      ∀ (j : Nat) (v : TV) (x : Value), args[j]? = some v → (c.args.map a.eval ++ capsV).toList[j]? = some x → Tr P st pl Z w v x)
    {st0 : St} {ins : List (Mode × TV)} {lent ds : List Nat} {ro : List (Nat × Ob)} (hg : GathOk st0 args [] ins lent ro ds) (hdis : ∀ m ∈ ds, m ∉ lent) {res : TV} (hsem : Sem P f ins [] res) {kp : Bool} (hkp : keptV kp lent res True) (hin : namesIn uid (freshV kp lent (uid * 64) res).2 = true) :
    Good P o uid ⟨rt, ro, (freshV kp lent (uid * 64) res).1, (freshV kp lent (uid * 64) res).2, ds.reverse⟩ := by
  intro cx st a w pl Z R ht hro hok K Q hK
  obtain ⟨capsV, e1, e2, e3⟩ := hargs cx st a w pl Z R ht
  obtain ⟨_, g2, g3, _, g5, g6⟩ := hg
  have hrun := run_callFn (w := w) ho hc e1 hsem.1
  have hdo : ∀ m ∈ ds, ∃ t rows p, lk st.s m = some (.arr t rows p) := fun m hm => by obtain ⟨t, r, h⟩ := g5 m hm; exact ⟨t, r, false, hro.mem h⟩
  have hdh : ∀ m ∈ ds, st.has m := fun m hm => by obtain ⟨t, r, p, h⟩ := hdo m hm; unfold St.has St.O; rw [h]; rfl
  have hlh : ∀ m ∈ lent, st.has m := has_of hro g2
  have hlu : ∀ m ∈ lent, memN (m / 64) (uid :: st.u) = true := fun m hm => by
    obtain ⟨o, ho⟩ := g2 m hm
    exact memN_cons (R.us m o (hro.mem ho)).1
  have hins := g6 P cx st a w pl Z (Sup pl Z lent) R hro (fun _ h => h) none _ e2 e3
  have hcalls := hsem.2 w (Sup pl Z lent) none _ (ds.flatMap pl.own) (R.gl.mono (fun b h => .inl h) fun _ _ => rfl) hins (.inl rfl) (own_nodup R g3 hdh) (fun b hb => by
      obtain ⟨m, hm, hb⟩ := List.mem_flatMap.1 hb
      obtain ⟨h1, h2, h3⟩ := R.lt m (hdh m hm) b hb
      refine ⟨h1, ?_, fun i hi => by cases hi⟩
      rintro (h | ⟨q, hq, h⟩)
      · exact h2 h
      · exact R.dj m q (hdh m hm) (hlh q hq) (fun e => hdis m hm (by rw [e]; exact hq)) b hb h) (fun b hb => by
      refine ⟨?_, fun i hi => by cases hi⟩
      rcases hb with h | ⟨q, hq, h⟩
      · exact (R.zlt b h).1
      · exact (R.lt q (hlh q hq) b h).1)
  unfold Oper.wp
  rw [hrun, Oper.upon_enter]
  rw [Array.toArray_toList] at hcalls
  refine hcalls.mono ?_
  rintro e w' ⟨v, rfl, Z2, f1, g, hF, hZ, hZ2, hres, _, hnd, hblk⟩
  have hfr : ∀ p : Nat × Ob, p ∈ (freshV kp lent (uid * 64) res).2 → lk st.s p.1 = none ∧ p.1 / 64 = uid := fun p hp => by
    have hd := namesIn_spec hin p hp
    exact ⟨fresh_none R (okPk_fresh hok (List.ne_nil_of_mem hp)) hd, hd⟩
  have hf1 : f1.Nodup := (List.nodup_append.1 hnd).1
  have hb1 : ∀ b ∈ f1, (b ∈ ds.flatMap pl.own ∨ w.heap.size ≤ b) ∧ b < w'.heap.size ∧ ¬ Z2 b := fun b hb => by
    obtain ⟨h1, h2, h3, _⟩ := hblk b (List.mem_append_left _ hb); exact ⟨h1, h2, h3⟩
  have hZ2' : ∀ b, Z2 b → (Sup pl Z lent b ∨ b ∈ ds.flatMap pl.own ∨ w.heap.size ≤ b) ∧ b < w'.heap.size := fun b hb => by obtain ⟨h1, h2, _⟩ := hZ2 b hb; exact ⟨h1, h2⟩
  let pk : Pk := ⟨rt, ro, (freshV kp lent (uid * 64) res).1, (freshV kp lent (uid * 64) res).2, ds.reverse⟩
  have arrs : ∀ {n : Nat} {cs : List AV} {xs : List Value} {fs : List (List Nat)} {ps : List Plc}, keptOk kp lent cs True → (∀ p ∈ fplc kp n cs xs fs, p ∈ ps) → uniqN (ps.map (·.n)) = true → (∀ p ∈ ps, p.n / 64 = uid) →
      (∀ (k : Nat) (av : AV) (x : Value) (g : List Nat), cs[k]? = some av → xs[k]? = some x → fs[k]? = some g → Ow P w' Z2 av x g) → ∀ Zn, (∀ b, Z2 b → Sup (over pl ps) Zn lent b) →
      ∀ p ∈ fplc kp n cs xs fs, ObR P (apply st o.dst uid pk) (over pl ps) Zn w' p.n p.o ∧ p.o.inU (uid :: st.u) = true := by
    intro n cs xs fs ps hko hsub hu' hpn how Zn hsup p hp
    obtain ⟨hk, k, t, rows, x, f, h1, h2, h3, rfl⟩ := fplc_mem hp
    obtain ⟨o1, o2, o3⟩ := over_at (pl := pl) hu' (hsub _ hp)
    have hO := how k _ x f h1 h2 h3
    refine ⟨?_, rfl⟩
    show Ow P w' Zn (.sl t rows) _ _
    rw [o1, o3]
    by_cases hl : lent = []
    · exact hO.mono (fun b hb => by rcases hsup b hb with h | ⟨m, hm, _⟩; exact h; rw [hl] at hm; cases hm) (fun _ _ => rfl) (fun _ _ => rfl)
    · exact hO.primRows ((keptOk_spec hko).2 hk hl t rows (List.mem_of_getElem? h1))
  rcases res_flat hres kp lent (uid * 64) with ⟨cs, xs, fs, k1, k2, rfl, k4, k5, k6, k7, k8⟩ | ⟨row, b, o0, c, ty, fs, rfl, k2, k3, k4, rfl, k6, k7, k8⟩
  · have hmap := fplc_map (kp := kp) (lent := lent) (n := uid * 64) k1 k2
    have hput : pk.put = (fplc kp (uid * 64) cs xs fs).map fun p => (p.n, p.o) := by rw [hmap]; exact k5
    have hnm : names pk.put = (fplc kp (uid * 64) cs xs fs).map (·.n) := by rw [hput, names_map]
    have hu' : uniqN ((fplc kp (uid * 64) cs xs fs).map (·.n)) = true := by have := okPk_uniq hok; rw [← hnm]; exact this
    have hpm : ∀ p ∈ fplc kp (uid * 64) cs xs fs, lk st.s p.n = none ∧ p.n / 64 = uid := fun p hp => hfr (p.n, p.o) (by rw [k5, ← hmap]; exact List.mem_map.2 ⟨p, hp, rfl⟩)
    have hke : keptOk kp lent cs True := by rw [← k6]; exact hkp
    refine hK _ _ _ _ (call_step R (pk := pk) (ps := fplc kp (uid * 64) cs xs fs) (ff := bif kp then [] else fs.flatten) rfl hok hput hdo g3 hlh (fun p hp => (hpm p hp).1) hF hZ hZ2' (fun b hb => ?_) (fun p hp => ?_) (fun p hp q hq hne b hb => ?_) (fun p hp row hr => ?_) (fun hsup p hp => ?_) (fun hsup => ⟨?_, ?_⟩))
    · cases kp
      · obtain ⟨h1, h2, _⟩ := hb1 b hb; exact ⟨h1, h2⟩
      · cases hb
    · obtain ⟨hk, k, t, rows, x, f, h1, h2, h3, rfl⟩ := fplc_mem hp
      refine ⟨(nodup_flat hf1).1 _ (List.mem_of_getElem? h3), fun b hb => ?_⟩
      obtain ⟨i1, i2, i3⟩ := hb1 b (flat_sub h3 b hb)
      exact ⟨i1, i2, i3, by rw [hk]; exact List.not_mem_nil⟩
    · obtain ⟨hk, k, t, rows, x, f, h1, h2, h3, rfl⟩ := fplc_mem hp
      obtain ⟨_, k', t', rows', x', f', h1', h2', h3', rfl⟩ := fplc_mem hq
      intro hb'
      have hkk : k ≠ k' := fun e => hne (by rw [e])
      have hp2 := (nodup_flat hf1).2
      rw [List.pairwise_iff_getElem] at hp2
      obtain ⟨i1, e1⟩ := List.getElem?_eq_some_iff.1 h3
      obtain ⟨i2, e2⟩ := List.getElem?_eq_some_iff.1 h3'
      simp only at hb hb'
      rcases Nat.lt_or_gt_of_ne hkk with h | h
      · exact hp2 k k' i1 i2 h _ (by rw [e1]; exact hb) (by rw [e2]; exact hb')
      · exact hp2 k' k i2 i1 h _ (by rw [e2]; exact hb') (by rw [e1]; exact hb)
    · obtain ⟨hk, k, t, rows, x, f, h1, h2, h3, rfl⟩ := fplc_mem hp; cases hr
    · exact arrs hke (fun p hp => hp) hu' (fun p hp => (hpm p hp).2) k4 _ hsup p hp
    · refine k8 _ _ _ (fresh_ars k1 k2 k4 hsup (fun hk b hb => .inr (.inr ?_)) fun p hp => ⟨(over_at (pl := pl) hu' hp).1, apply_put hput hu' hp⟩)
      rw [hk]; exact hb
    · refine k7 _ (fresh_inU hlu fun hk k t rows h1 => ?_)
      have hkl : k < cs.length := (List.getElem?_eq_some_iff.1 h1).1
      have := fplc_at (kp := kp) hk (n := uid * 64) h1 (List.getElem?_eq_getElem (k1 ▸ hkl)) (List.getElem?_eq_getElem (k2 ▸ hkl))
      exact mem_u (hpm _ this).2
  · obtain ⟨xs0, hxs0⟩ : ∃ xs0, xs0 = (c.toList.drop o0).take row.length := ⟨_, rfl⟩
    have hcl : xs0.length = row.length := by rw [hxs0]; simp; omega
    have hxg : ∀ k, k < row.length → xs0[k]? = c[o0 + k]? := fun k hk => by rw [hxs0, List.getElem?_take, if_pos hk, List.getElem?_drop]; simp
    clear hxs0
    have hmap := fplc_map (kp := kp) (lent := lent) (n := uid * 64 + 1) (xs := xs0) hcl k4
    let ps : List Plc := ⟨uid * 64, .box (fresh kp lent (uid * 64 + 1) row).1, undef, (b, o0), [b]⟩ :: fplc kp (uid * 64 + 1) row xs0 fs
    have hpe : (freshV kp lent (uid * 64) res).2 = ps.map fun p => (p.n, p.o) := by rw [k7]; simp only [ps, List.map_cons, hmap]
    have hput : pk.put = ps.map fun p => (p.n, p.o) := hpe
    have hnm : names pk.put = ps.map (·.n) := by rw [hput, names_map]
    have hu' : uniqN (ps.map (·.n)) = true := by have := okPk_uniq hok; rw [← hnm]; exact this
    have hpm : ∀ p ∈ ps, lk st.s p.n = none ∧ p.n / 64 = uid := fun p hp => hfr (p.n, p.o) (by rw [hpe]; exact List.mem_map.2 ⟨p, hp, rfl⟩)
    have hke : keptOk kp lent row True := by rw [← k8]; exact hkp
    have hbn : b ∉ fs.flatten := (List.nodup_cons.1 hf1).1
    have hfn : fs.flatten.Nodup := (List.nodup_cons.1 hf1).2
    have k6' : ∀ (k : Nat) (av : AV) (x : Value) (g : List Nat), row[k]? = some av → xs0[k]? = some x → fs[k]? = some g → Ow P w' Z2 av x g := fun k av x g h1 h2 h3 => k6 k av x g h1 (by rw [← hxg k (List.getElem?_eq_some_iff.1 h1).1]; exact h2) h3
    have hmem : (⟨uid * 64, .box (fresh kp lent (uid * 64 + 1) row).1, undef, (b, o0), [b]⟩ : Plc) ∈ ps := List.mem_cons_self ..
    have hrinU : (fresh kp lent (uid * 64 + 1) row).1.all (AV.inU (uid :: st.u)) = true := by
      refine fresh_inU hlu fun hk k t rows h1 => ?_
      have hkl : k < row.length := (List.getElem?_eq_some_iff.1 h1).1
      have := fplc_at (kp := kp) hk (n := uid * 64 + 1) h1 (List.getElem?_eq_getElem (hcl.symm ▸ hkl)) (List.getElem?_eq_getElem (k4 ▸ hkl))
      exact mem_u (hpm _ (List.mem_cons_of_mem _ this)).2
    refine hK _ _ _ _ (call_step R (pk := pk) (ps := ps) (ff := bif kp then [] else fs.flatten) rfl hok hput hdo g3 hlh (fun p hp => (hpm p hp).1) hF hZ hZ2' (fun b' hb => ?_) (fun p hp => ?_) (fun p hp q hq hne b' hb => ?_) (fun p hp row hr => ?_) (fun hsup p hp => ?_) (fun hsup => ⟨?_, ?_⟩))
    · cases kp
      · obtain ⟨h1, h2, _⟩ := hb1 b' (List.mem_cons_of_mem _ hb); exact ⟨h1, h2⟩
      · cases hb
    · rcases List.mem_cons.1 hp with rfl | hp
      · refine ⟨by simp, fun b' hb => ?_⟩
        rw [List.mem_singleton.1 hb]
        obtain ⟨i1, i2, i3⟩ := hb1 b (List.mem_cons_self ..)
        refine ⟨i1, i2, i3, ?_⟩
        cases kp
        · exact hbn
        · exact List.not_mem_nil
      · obtain ⟨hk, k, t, rows, x, f, h1, h2, h3, rfl⟩ := fplc_mem hp
        refine ⟨(nodup_flat hfn).1 _ (List.mem_of_getElem? h3), fun b hb => ?_⟩
        obtain ⟨i1, i2, i3⟩ := hb1 b (List.mem_cons_of_mem _ (flat_sub h3 b hb))
        exact ⟨i1, i2, i3, by rw [hk]; exact List.not_mem_nil⟩
    · rcases List.mem_cons.1 hp with rfl | hp <;> rcases List.mem_cons.1 hq with rfl | hq
      · exact absurd rfl hne
      · obtain ⟨hk, k, t, rows, x, f, h1, h2, h3, rfl⟩ := fplc_mem hq
        rw [List.mem_singleton.1 hb]
        exact fun h => hbn (flat_sub h3 b h)
      · obtain ⟨hk, k, t, rows, x, f, h1, h2, h3, rfl⟩ := fplc_mem hp
        exact fun h => hbn (flat_sub h3 b (by rw [← List.mem_singleton.1 h]; exact hb))
      · obtain ⟨hk, k, t, rows, x, f, h1, h2, h3, rfl⟩ := fplc_mem hp
        obtain ⟨_, k', t', rows', x', f', h1', h2', h3', rfl⟩ := fplc_mem hq
        intro hb'
        have hkk : k ≠ k' := fun e => hne (by rw [e])
        have hp2 := (nodup_flat hfn).2
        rw [List.pairwise_iff_getElem] at hp2
        obtain ⟨i1, e1⟩ := List.getElem?_eq_some_iff.1 h3
        obtain ⟨i2, e2⟩ := List.getElem?_eq_some_iff.1 h3'
        simp only at hb hb'
        rcases Nat.lt_or_gt_of_ne hkk with h | h
        · exact hp2 k k' i1 i2 h _ (by rw [e1]; exact hb) (by rw [e2]; exact hb')
        · exact hp2 k' k i2 i1 h _ (by rw [e2]; exact hb') (by rw [e1]; exact hb)
    · rcases List.mem_cons.1 hp with rfl | hp
      · exact List.mem_singleton.2 rfl
      · obtain ⟨hk, k, t, rows, x, f, h1, h2, h3, rfl⟩ := fplc_mem hp; cases hr
    · rcases List.mem_cons.1 hp with rfl | hp
      · obtain ⟨o1, o2, o3⟩ := over_at (pl := pl) hu' hmem
        have ha := fresh_ars (P := P) (st' := apply st o.dst uid pk) (w' := w') (n := uid * 64 + 1) hcl k4 k6' hsup (fun hk b' hb => .inr (.inr (by rw [hk]; exact hb))) fun p hp => ⟨(over_at (pl := pl) hu' (List.mem_cons_of_mem _ hp)).1, apply_put hput hu' (List.mem_cons_of_mem _ hp)⟩
        refine ⟨⟨by rw [o2, o3], c, ty, by rw [o2]; exact k2, by rw [o2]; simp [fresh_len, k3], fun k av y hk hy => ?_⟩, hrinU⟩
        rw [o2] at hy
        exact ha.2 k av y hk (by rw [hxg k (by have := (List.getElem?_eq_some_iff.1 hk).1; rwa [fresh_len] at this)]; exact hy)
      · exact arrs hke (fun p hp => List.mem_cons_of_mem _ hp) hu' (fun p hp => (hpm p hp).2) k6' _ hsup p hp
    · rw [show pk.val = .one (.ptr (uid * 64) 0 0) by simp only [pk, k7]]
      intro o' ho'
      have h1 := apply_put (st := st) (dst := o.dst) (uid := uid) hput hu' hmem
      have : o' = .box (fresh kp lent (uid * 64 + 1) row).1 := Option.some.inj (ho'.symm.trans h1)
      subst this
      simp only [ptrAt]
      rw [(over_at (pl := pl) hu' hmem).2.1]
      rfl
    · rw [show pk.val = .one (.ptr (uid * 64) 0 0) by simp only [pk, k7]]
      exact mem_u (hpm _ hmem).2
end
end Go.AM
end
section
namespace Go.AM
open Go
set_option linter.unusedVariables false
section
variable {E : Env} (hE : tabB E = true) {uid : Nat} {st : St} {o : Oper} {k : Pk → Prop}
def OpOk (E : Env) (uid : Nat) (st : St) (o : Oper) (k : Pk → Prop) : Prop := ∃ pk, k pk ∧ Good E.P o uid pk ∧ RdT pk.rt st ∧ RdO pk.ro st
theorem ty_slice (hE : tabB E = true) {t : Nat} {k : Nat → Prop} (h : tyE E t k) : ∃ e, E.P.underlying t = some (.slice e) ∧ k e := tyE_ok hE h
theorem tiS {t : Nat} {ti : TI} (hT : TIok E.P t ti) {s : ByteArray} (hd : ti.d = .sc) (hz : ti.z = [.prim (.string s)]) : E.P.underlying t = some .string := by
  obtain ⟨i, d, z, h1, hu, h2, h3, h4, h5, h6, h7⟩ := hT.ex
  rw [hd] at h7
  cases d <;> simp [tdOk, hz] at h7
  exact hu
theorem tiI {t : Nat} {ti : TI} (hT : TIok E.P t ti) {j : IntKind} {n : Int} (hd : ti.d = .sc) (hz : ti.z = [.prim (.int j n)]) : E.P.underlying t = some (.int j) := by
  obtain ⟨i, d, z, h1, hu, h2, h3, h4, h5, h6, h7⟩ := hT.ex
  rw [hd] at h7
  cases d <;> simp [tdOk, hz] at h7
  rw [hu, kB_eq h7.1]
theorem sd_move {x : Operand} (ho : o.op = .move x) (h : opP E uid st o k) : OpOk E uid st o k := by
  simp only [opP, ho] at h
  replace h := getX_sound h
  obtain ⟨rt, v, h, hr, he⟩ := h
  exact ⟨_, h, good_move (.inl ho) he, hr, RdO.nil⟩
theorem sd_assign {x : Operand} (ho : o.op = .assign x) (h : opP E uid st o k) : OpOk E uid st o k := by
  simp only [opP, ho] at h
  replace h := getX_sound h
  obtain ⟨rt, v, h, hr, he⟩ := h
  split at h
  · exact ⟨_, h, good_assignE ho he, hr, RdO.nil⟩
  · exact ⟨_, h, good_move (.inr ho) he, hr, RdO.nil⟩
theorem sd_pick {c a b : Operand} (ho : o.op = .pick c a b) (h : opP E uid st o k) : OpOk E uid st o k := by
  simp only [opP, ho] at h
  replace h := getX_sound h
  obtain ⟨rt, v, h, hr, he⟩ := h
  split at h
  · replace h := getX_sound h
    obtain ⟨rt', v', h, hr', he'⟩ := h
    exact ⟨_, h, good_pick ho he he', RdT.append.2 ⟨hr, hr'⟩, RdO.nil⟩
  · replace h := getX_sound h
    obtain ⟨rt', v', h, hr', he'⟩ := h
    exact ⟨_, h, good_pick ho he he', RdT.append.2 ⟨hr, hr'⟩, RdO.nil⟩
  · exact h.elim
include hE
theorem sd_alloc {e : Nat} (ho : o.op = .alloc e) (h : opP E uid st o k) : OpOk E uid st o k := by
  simp only [opP, ho] at h
  replace h := ty_ok hE h
  obtain ⟨ti, hT, _, h⟩ := h
  simp only [fAVs_eq, fOs_eq] at h
  exact ⟨_, h, good_alloc ho hT, RdT.nil, RdO.nil⟩
theorem sd_box {e : Nat} {x : Operand} (ho : o.op = .box e x) (h : opP E uid st o k) : OpOk E uid st o k := by
  simp only [opP, ho] at h
  replace h := getX_sound h
  obtain ⟨rt, v, h, hr, he⟩ := h
  split at h
  · exact h.elim
  · rename_i hv
    replace h := ty_ok hE h
    obtain ⟨ti, hT, _, h⟩ := h
    split at h
    · rename_i hl
      replace h := live_sound h
      obtain ⟨ro, h, hro, hlive⟩ := h
      simp only [fAVs_eq, fOs_eq] at h
      exact ⟨_, h, good_box ho hT he (fun vs e => hv vs e) hl fun cx st' a w pl Z R hr av hav x hx => hlive E.P cx st' a w pl Z R hr av hav x hx, hr, hro⟩
    · exact h.elim
theorem sd_build {t : Nat} {parts : Array (Nat × Operand)} (ho : o.op = .build t parts) (h : opP E uid st o k) : OpOk E uid st o k := by
  simp only [opP, ho] at h
  split at h
  · rename_i fs n z heq
    have hT := tabB_spec hE heq
    replace h := buildC_sound hE h
    obtain ⟨rt, ro, cs, h, hr, hro, hfin⟩ := h
    exact ⟨_, h, good_build (E := E) ho hT hfin, hr, hro⟩
  · exact h.elim
omit hE in
theorem zip_const {α β : Type} (e : α) (l : List (Nat × β)) (j : Nat) (x : β) (h : (l.map (·.2))[j]? = some x) : (l.map fun p => (e, p.2))[j]? = some (e, x) := by
  simp only [List.getElem?_map, Option.map_eq_some_iff] at h ⊢
  obtain ⟨p, h1, h2⟩ := h
  exact ⟨p, h1, by rw [h2]⟩
theorem sd_buildSlice {t n : Nat} {parts : Array (Nat × Operand)} (ho : o.op = .buildSlice t n parts) (h : opP E uid st o k) : OpOk E uid st o k := by
  simp only [opP, ho] at h
  replace h := ty_slice hE h
  obtain ⟨e, hu, h⟩ := h
  replace h := ty_ok hE h
  obtain ⟨ti, hT, _, h⟩ := h
  split at h
  · rename_i hn hp
    simp only [Bool.and_eq_true] at hn
    replace h := getXs_sound h
    obtain ⟨rt, vs, h, hr, hl, hev⟩ := h
    replace h := rowsOf_sound h
    obtain ⟨rows, ro, ms, h, g2, g3, g4, g4', g5, g6, g7, g8⟩ := h
    rw [List.append_nil] at h
    refine ⟨_, h, good_buildSlice ho hu hT (Nat.eq_of_beq_eq_true hn.1) hp (Nat.le_of_ble_eq_true hn.2) ⟨by simpa using hl, fun j x v hx hv => hev j e x v ?_ hv⟩ (by simpa using g3) g4 g4' g5 g7 g8, hr, g2⟩
    exact zip_const e parts.toList j x hx
  · exact h.elim
theorem sd_load {t : Nat} {x : Operand} (ho : o.op = .load t x) (h : opP E uid st o k) : OpOk E uid st o k := by
  simp only [opP, ho] at h
  replace h := ty_ok hE h
  obtain ⟨ti, hT, _, h⟩ := h
  replace h := getX_sound h
  obtain ⟨rt, v, h, hr, he⟩ := h
  split at h
  · rename_i n i off
    split at h
    · rename_i row hrow
      split at h
      · rename_i h1 h3
        rw [fAVs_eq] at h
        exact ⟨_, h, good_loadB ho hT he h1, hr, RdO.cons.2 ⟨hrow, RdO.nil⟩⟩
      · exact h.elim
    · rename_i te rows p hrow
      obtain ⟨row, h1, h⟩ := h
      split at h
      · rename_i h2
        rw [fAVs_eq] at h
        exact ⟨_, h, good_loadA ho hT he h1 h2, hr, RdO.cons.2 ⟨hrow, RdO.nil⟩⟩
      · exact h.elim
    · exact h.elim
  · rename_i ns row off
    split at h
    · rename_i h1
      replace h := alive_sound h
      obtain ⟨ro, h, hro, hal⟩ := h
      rw [fAVs_eq] at h
      exact ⟨_, h, good_loadF ho hT he hal h1, hr, hro⟩
    · exact h.elim
  · exact h.elim
theorem sd_store {t : Nat} {x v : Operand} (ho : o.op = .store t x v) (h : opP E uid st o k) : OpOk E uid st o k := by
  simp only [opP, ho] at h
  replace h := ty_ok hE h
  obtain ⟨ti, hT, _, h⟩ := h
  replace h := getX_sound h
  obtain ⟨rt, a, h, hr, he⟩ := h
  replace h := getX_sound h
  obtain ⟨rt', tv, h, hr', he'⟩ := h
  split at h
  · rename_i n i off hl
    split at h
    · rename_i row hrow
      split at h
      · rename_i h1 h3
        replace h := live_sound h
        obtain ⟨ro, h, hro, hlive⟩ := h
        rw [fAVs_eq] at h
        split at h
        · rename_i h4
          rw [fOs_eq] at h
          exact ⟨_, h, good_storeB ho hT he he' (lenIs_iff.1 hl) (leLen_iff.1 h1) (allB_iff.1 h3) (fun cx st' a w pl Z R hr av hav x hx => hlive E.P cx st' a w pl Z R hr av hav x hx) (allB_iff.1 h4), RdT.append.2 ⟨hr, hr'⟩, RdO.cons.2 ⟨hrow, hro⟩⟩
        · exact h.elim
      · exact h.elim
    · rename_i te rows p hrow
      obtain ⟨row, h1, h⟩ := h
      split at h
      · rename_i h2
        replace h := rowCellsN_sound h
        obtain ⟨cs, ro, ms, h, g1, g2, g3, g4, g5, g6⟩ := h
        rw [fAVs_eq] at h
        have hf : (ms.reverse ++ [n]).filter (fun m => !Nat.beq m n) = ms.reverse := by
          rw [List.filter_append, List.filter_eq_self.2]
          · simp [Nat.beq_refl]
          · intro m hm
            have : m ≠ n := fun e => g4 m (by simpa using hm) (by simp [e])
            cases hb : Nat.beq m n
            · rfl
            · exact absurd (Nat.eq_of_beq_eq_true hb) this
        rw [hf] at h
        exact ⟨_, h, good_storeA ho hT he he' (lenIs_iff.1 hl) (leLen_iff.1 h2) h1 g2 g3 (fun hm => g4 n hm (by simp)) g5 g6, RdT.append.2 ⟨hr, hr'⟩, RdO.cons.2 ⟨hrow, g1⟩⟩
      · exact h.elim
    · exact h.elim
  · exact h.elim
omit hE in
theorem sd_nilCheck {x : Operand} (ho : o.op = .nilCheck x) (h : opP E uid st o k) : OpOk E uid st o k := by
  simp only [opP, ho] at h
  replace h := getX_sound h
  obtain ⟨rt, v, h, hr, he⟩ := h
  split at h
  · split at h
    · rename_i ob hob
      exact ⟨_, h, good_nilP ho he, hr, RdO.cons.2 ⟨hob, RdO.nil⟩⟩
    · exact h.elim
  · replace h := alive_sound h
    obtain ⟨ro, h, hro, hal⟩ := h
    exact ⟨_, h, good_nilF ho he hal, hr, hro⟩
  · exact h.elim
end
end Go.AM
end
section
namespace Go.AM
open Go
set_option linter.unusedVariables false
section
variable {E : Env} (hE : tabB E = true) {uid : Nat} {st : St} {o : Oper} {k : Pk → Prop}
include hE
theorem sd_bin {op : BinOp} {t ty : Nat} {x y : Operand} (ho : o.op = .binOp op t x y ty) (h : opP E uid st o k) : OpOk E uid st o k := by
  simp only [opP, ho] at h
  replace h := getX_sound h
  obtain ⟨rt, a, h, hr, he⟩ := h
  replace h := getX_sound h
  obtain ⟨rt', b, h, hr', he'⟩ := h
  split at h
  · replace h := ty_ok hE h
    obtain ⟨ti, hT, _, h⟩ := h
    replace h := run_binV (x := x) (y := y) hT h
    obtain ⟨c, h, h1, h2⟩ := h
    exact ⟨_, h, good_bin ho he he' h2 h1, RdT.append.2 ⟨hr, hr'⟩, RdO.nil⟩
  · exact h.elim
omit hE in
theorem sd_un {op : UnOp} {t : Nat} {x : Operand} (ho : o.op = .unOp op t x) (h : opP E uid st o k) : OpOk E uid st o k := by
  simp only [opP, ho] at h
  replace h := getX_sound h
  obtain ⟨rt, a, h, hr, he⟩ := h
  split at h
  · replace h := run_unV (P := E.P) h
    obtain ⟨c, h, h1, h2⟩ := h
    exact ⟨_, h, good_un ho he h2 h1, hr, RdO.nil⟩
  · exact h.elim
omit hE in
theorem good_convS {P : Program} {src dst : Nat} {x : Operand} (ho : o.op = .convert src dst x) {rt : List (Nat × TV)} {s : ByteArray} {d : TypeDesc} (hd : P.underlying dst = some .string) (hs : P.underlying src = some d) (hx : Ev P x rt (.one (.prim (.string s)))) :
    Good P o uid ⟨rt, [], .one (.prim (.string s)), [], []⟩ :=
  Good.value fun cx st a' w pl Z R ht _ => by
    obtain ⟨⟨e1, _⟩, _⟩ := hx cx st a' w pl Z R ht
    refine ⟨.string s, ?_, ⟨rfl, rfl⟩, rfl⟩
    simp only [execOp, ho, e1, convert]
    simp only [Sem.run_bind, run_underlying hs, run_underlying hd, Result.andThen_ok]
    cases d <;> simp
theorem sd_convert {src dst : Nat} {x : Operand} (ho : o.op = .convert src dst x) (h : opP E uid st o k) : OpOk E uid st o k := by
  simp only [opP, ho] at h
  replace h := ty_ok hE h
  obtain ⟨ts, hTs, _, h⟩ := h
  obtain ⟨_, ds, _, _, hus, _⟩ := hTs.ex
  replace h := getX_sound h
  obtain ⟨rt, a, h, hr, he⟩ := h
  replace h := ty_ok hE h
  obtain ⟨ti, hT, _, h⟩ := h
  split at h
  · rename_i hd hz
    obtain ⟨c, rfl, h⟩ := h
    exact ⟨_, h, good_convI ho (tiI hT hd hz) (by rw [hus]; rfl) he, hr, RdO.nil⟩
  · rename_i hd hz
    exact ⟨_, h, good_convS ho (tiS hT hd hz) hus he, hr, RdO.nil⟩
  · rename_i hd hz
    split at h
    · rename_i t rows p hob
      replace h := ty_slice hE h
      obtain ⟨e, hu, h⟩ := h
      replace h := ty_ok hE h
      obtain ⟨ei, hTe, _, h⟩ := h
      split at h
      · rename_i hd' hz'
        obtain ⟨l, rfl, h⟩ := h
        exact ⟨_, h, good_convB ho hu (tiI hTe hd' hz') (tiS hT hd hz) he, hr, RdO.cons.2 ⟨hob, RdO.nil⟩⟩
      · exact h.elim
    · exact h.elim
  · exact h.elim
omit hE in
theorem cells_one {vs : List TV} {j : Nat} {c : AV} (hall : ∀ a ∈ vs.flatMap tvCells, (match a with | .ptr .. => true | _ => false) = true) (hl : (vs.flatMap tvCells).length = vs.length) (h : (vs.flatMap tvCells)[j]? = some c) : True := trivial
theorem sd_makeSlice {t : Nat} {l c : Operand} (ho : o.op = .makeSlice t l c) (h : opP E uid st o k) : OpOk E uid st o k := by
  simp only [opP, ho] at h
  replace h := ty_slice hE h
  obtain ⟨e, hu, h⟩ := h
  replace h := ty_ok hE h
  obtain ⟨ti, hT, _, h⟩ := h
  replace h := getX_sound h
  obtain ⟨rt, a, h, hr, he⟩ := h
  replace h := getX_sound h
  obtain ⟨rt', b, h, hr', he'⟩ := h
  split at h
  · obtain ⟨rfl, h0, hn, h⟩ := h
    replace h := rowCellsN_sound h
    obtain ⟨row, ro, ms, h, g1, g2, g3, g4, g5, g6⟩ := h
    split at h
    · rename_i hro hms
      have hms' : ms = [] := by simpa using hms
      subst hms'
      refine ⟨_, h, good_makeSlice (ro := []) ho hu hT he he' h0 hn g2 (fun P cx st' a w pl Z R hr xs hx => ?_) (fun _ => RdO.nil), RdT.append.2 ⟨hr, hr'⟩, RdO.nil⟩
      obtain ⟨fs, f1, f2, f3⟩ := g6 P cx st' a w pl Z R hr xs hx
      exact ⟨fs, f1, by simpa using f2, f3⟩
    · exact h.elim
  · exact h.elim
omit hE in
theorem getD_lo {x : Option Operand} {rt : List (Nat × TV)} {k' : IntKind} {d n : Int} (h : Ev E.P (x.getD (.const (.int .i64 d))) rt (.one (.prim (.int k' n)))) (hR : x = none → n = d) : EvD E.P x rt d n := by
  cases x with
  | none => exact .inl ⟨rfl, hR rfl⟩
  | some y => exact .inr ⟨y, k', rfl, h⟩
omit hE in
theorem bound_sound {t : Nat} {x : Option Operand} {d : Int} {k : List (Nat × TV) → TV → Prop} (h : getX E st t (x.getD (.const (.int .i64 d))) k) : ∃ rt v, k rt v ∧ RdT rt st ∧ ∀ j n, v = .one (.prim (.int j n)) → EvD E.P x rt d n := by
  cases x with
  | none => exact ⟨[], .one (.prim (.int .i64 d)), h, RdT.nil, fun j n e => by cases e; exact .inl ⟨rfl, rfl⟩⟩
  | some y =>
    obtain ⟨rt, v, h, hr, he⟩ := getX_sound h
    exact ⟨rt, v, h, hr, fun j n e => by subst e; exact .inr ⟨y, j, rfl, he⟩⟩
theorem sd_slice {t : Nat} {x : Operand} {lo hi mx : Option Operand} (ho : o.op = .slice t x lo hi mx) (h : opP E uid st o k) : OpOk E uid st o k := by
  simp only [opP, ho] at h
  split at h
  · exact h.elim
  · replace h := getX_sound h
    obtain ⟨rt, v, h, hr, he⟩ := h
    replace h := bound_sound h
    obtain ⟨rt1, a, h, hr1, he1⟩ := h
    split at h
    · rename_i l
      have hlo := he1 _ _ rfl
      split at h
      ·
        replace h := ty_ok hE h
        obtain ⟨ti, hT, _, h⟩ := h
        split at h
        · rename_i hd hz
          replace h := bound_sound h
          obtain ⟨rt2, b, h, hr2, he2⟩ := h
          split at h
          · obtain ⟨h0, h1, h2, h⟩ := h
            exact ⟨_, h, good_sliceS ho (tiS hT hd hz) he hlo (he2 _ _ rfl) h0 h1 h2, RdT.append.2 ⟨RdT.append.2 ⟨hr, hr1⟩, hr2⟩, RdO.nil⟩
          · exact h.elim
        · exact h.elim
      ·
        replace h := ty_slice hE h
        obtain ⟨e, hu, h⟩ := h
        replace h := ty_ok hE h
        obtain ⟨ti, hT, _, h⟩ := h
        replace h := alive_sound h
        obtain ⟨ro, h, hro, hal⟩ := h
        replace h := bound_sound h
        obtain ⟨rt2, b, h, hr2, he2⟩ := h
        split at h
        · rename_i hte
          have := Nat.eq_of_beq_eq_true hte
          subst this
          obtain ⟨h0, h1, h2, h⟩ := h
          exact ⟨_, h, good_sliceF ho hu hT he hal hlo (he2 _ _ rfl) h0 h1 h2, RdT.append.2 ⟨RdT.append.2 ⟨hr, hr1⟩, hr2⟩, hro⟩
        · exact h.elim
      ·
        split at h
        · rename_i te rows p hob
          replace h := ty_slice hE h
          obtain ⟨e, hu, h⟩ := h
          replace h := ty_ok hE h
          obtain ⟨ti, hT, _, h⟩ := h
          replace h := bound_sound h
          obtain ⟨rt2, b, h, hr2, he2⟩ := h
          split at h
          · rename_i hte
            have := Nat.eq_of_beq_eq_true hte
            subst this
            obtain ⟨h0, h1, h2, h⟩ := h
            split at h
            · obtain ⟨rfl, h⟩ := h
              exact ⟨_, h, good_sliceC ho hu hT he hlo (he2 _ _ rfl) h1 h2, RdT.append.2 ⟨RdT.append.2 ⟨hr, hr1⟩, hr2⟩, RdO.cons.2 ⟨hob, RdO.nil⟩⟩
            · exact ⟨_, h, good_sliceR ho hu hT he hlo (he2 _ _ rfl) h0 h1 h2, RdT.append.2 ⟨RdT.append.2 ⟨hr, hr1⟩, hr2⟩, RdO.cons.2 ⟨hob, RdO.nil⟩⟩
          · exact h.elim
        · exact h.elim
      · exact h.elim
    · exact h.elim
theorem sd_fieldAddr {s f : Nat} {x : Operand} (ho : o.op = .fieldAddr s x f) (h : opP E uid st o k) : OpOk E uid st o k := by
  simp only [opP, ho] at h
  split at h
  · rename_i fs n z hs
    have hT := tabB_spec hE hs
    split at h
    · rename_i fo ft hf
      replace h := getX_sound h
      obtain ⟨rt, v, h, hr, he⟩ := h
      split at h
      · split at h
        · rename_i ob hob
          exact ⟨_, h, good_fieldP ho hT hf he, hr, RdO.cons.2 ⟨hob, RdO.nil⟩⟩
        · exact h.elim
      · replace h := alive_sound h
        obtain ⟨ro, h, hro, hal⟩ := h
        exact ⟨_, h, good_fieldF ho hT hf he hal, hr, hro⟩
      · exact h.elim
    · exact h.elim
  · exact h.elim
theorem sd_field {s f : Nat} {x : Operand} (ho : o.op = .field s x f) (h : opP E uid st o k) : OpOk E uid st o k := by
  simp only [opP, ho] at h
  split at h
  · rename_i fs n z hs
    have hT := tabB_spec hE hs
    split at h
    · rename_i fo ft hf
      replace h := ty_ok hE h
      obtain ⟨ti, hti, _, h⟩ := h
      replace h := getX_sound h
      obtain ⟨rt, v, h, hr, he⟩ := h
      split at h
      · split at h
        · rename_i hl
          rw [fAVs_eq] at h
          exact ⟨_, h, good_field ho hT hf hti he hl, hr, RdO.nil⟩
        · exact h.elim
      · exact h.elim
    · exact h.elim
  · exact h.elim
theorem sd_indexAddr {t : Nat} {x ix : Operand} (ho : o.op = .indexAddr t x ix) (h : opP E uid st o k) : OpOk E uid st o k := by
  simp only [opP, ho] at h
  replace h := getX_sound h
  obtain ⟨rt, v, h, hr, he⟩ := h
  replace h := getX_sound h
  obtain ⟨rt', w, h, hr', he'⟩ := h
  split at h
  · replace h := ty_slice hE h
    obtain ⟨e, hu, h⟩ := h
    replace h := ty_ok hE h
    obtain ⟨ti, hT, _, h⟩ := h
    split at h
    · split at h
      · rename_i hte
        replace h := alive_sound h
        obtain ⟨ro, h, hro, hal⟩ := h
        obtain ⟨h0, row, hrow, h⟩ := h
        exact ⟨_, h, good_idxF ho hu ⟨ti, hT⟩ (Nat.eq_of_beq_eq_true hte) he he' hal h0 hrow, RdT.append.2 ⟨hr, hr'⟩, hro⟩
      · exact h.elim
    · split at h
      · rename_i te rows p hob
        split at h
        · rename_i hte
          obtain ⟨h0, hlt, h⟩ := h
          exact ⟨_, h, good_idxR ho hu ⟨ti, hT⟩ (Nat.eq_of_beq_eq_true hte) he he' h0 hlt, RdT.append.2 ⟨hr, hr'⟩, RdO.cons.2 ⟨hob, RdO.nil⟩⟩
        · exact h.elim
      · exact h.elim
    · exact h.elim
  · exact h.elim
theorem sd_index {t : Nat} {x ix : Operand} (ho : o.op = .index t x ix) (h : opP E uid st o k) : OpOk E uid st o k := by
  simp only [opP, ho] at h
  replace h := getX_sound h
  obtain ⟨rt, v, h, hr, he⟩ := h
  replace h := getX_sound h
  obtain ⟨rt', w, h, hr', he'⟩ := h
  split at h
  · replace h := ty_ok hE h
    obtain ⟨ti, hT, _, h⟩ := h
    split at h
    · rename_i hd hz
      obtain ⟨h0, b, hb, h⟩ := h
      exact ⟨_, h, good_index ho (tiS hT hd hz) he he' h0 hb, RdT.append.2 ⟨hr, hr'⟩, RdO.nil⟩
    · exact h.elim
  · exact h.elim
end
end Go.AM
end
section
namespace Go.AM
open Go
set_option linter.unusedVariables false
def Held (st : St) (pl : Pl) (ps : List Plc) : Prop := ∀ p ∈ ps, lk st.s p.n = some p.o ∧ pl.hdr p.n = p.h ∧ pl.adr p.n = p.ad ∧ pl.own p.n = p.f
theorem Held.append {st : St} {pl : Pl} {ps qs : List Plc} : Held st pl (ps ++ qs) ↔ Held st pl ps ∧ Held st pl qs :=
  ⟨fun h => ⟨fun p hp => h p (List.mem_append_left _ hp), fun p hp => h p (List.mem_append_right _ hp)⟩, fun h p hp => (List.mem_append.1 hp).elim (h.1 p) (h.2 p)⟩
structure Places (P : Program) (w' : World) (Z2 : Nat → Prop) (lent : List Nat) (us : List Nat) (ps : List Plc) (ff f : List Nat) (val : St → Pl → (Nat → Prop) → Prop) : Prop where
  nd : ∀ p ∈ ps, p.f.Nodup ∧ ∀ b ∈ p.f, b ∈ f ∧ b ∉ ff
  dj : ∀ p ∈ ps, ∀ q ∈ ps, p.n ≠ q.n → ∀ b ∈ p.f, b ∉ q.f
  box : ∀ p ∈ ps, ∀ row, p.o = .box row → p.ad.1 ∈ p.f
  sub : ∀ b ∈ ff, b ∈ f
  rd : ∀ st pl Zn, (∀ b, Z2 b → Sup pl Zn lent b) → (∀ b ∈ ff, Zn b) → Held st pl ps → (∀ p ∈ ps, ObR P st pl Zn w' p.n p.o ∧ p.o.inU us = true) ∧ val st pl Zn
section
variable {P : Program} {w' : World} {Z2 : Nat → Prop} {lent us : List Nat}
theorem cells_places {kp : Bool} {n : Nat} {cs : List AV} {xs : List Value} {fs : List (List Nat)} (k1 : xs.length = cs.length) (k2 : fs.length = cs.length) (hnd : fs.flatten.Nodup)
    (how : ∀ (k : Nat) (av : AV) (x : Value) (g : List Nat), cs[k]? = some av → xs[k]? = some x → fs[k]? = some g → Ow P w' Z2 av x g) (hke : keptOk kp lent cs True) (hlu : ∀ m ∈ lent, memN (m / 64) us = true) (hnu : ∀ p ∈ fplc kp n cs xs fs, memN (p.n / 64) us = true) :
    Places P w' Z2 lent us (fplc kp n cs xs fs) (bif kp then [] else fs.flatten) fs.flatten fun st pl Zn => Ars P st pl Zn w' (fresh kp lent n cs).1 xs ∧ (fresh kp lent n cs).1.all (AV.inU us) = true := by
  refine ⟨fun p hp => ?_, fun p hp q hq hne b hb => ?_, fun p hp row hr => ?_, fun b hb => ?_, fun st pl Zn hsup hff hh => ⟨fun p hp => ?_, fresh_ars k1 k2 how hsup (fun hk b hb => hff b (by rw [hk]; exact hb)) (fun p hp => ⟨(hh p hp).2.1, (hh p hp).1⟩), fresh_inU hlu fun hk k t rows h1 => ?_⟩⟩
  · obtain ⟨hk, k, t, rows, x, f, h1, h2, h3, rfl⟩ := fplc_mem hp
    exact ⟨(nodup_flat hnd).1 _ (List.mem_of_getElem? h3), fun b hb => ⟨flat_sub h3 b hb, by rw [hk]; exact List.not_mem_nil⟩⟩
  · obtain ⟨hk, k, t, rows, x, f, h1, h2, h3, rfl⟩ := fplc_mem hp
    obtain ⟨_, k', t', rows', x', f', h1', h2', h3', rfl⟩ := fplc_mem hq
    intro hb'
    have hkk : k ≠ k' := fun e => hne (by rw [e])
    have hp2 := (nodup_flat hnd).2
    rw [List.pairwise_iff_getElem] at hp2
    obtain ⟨i1, e1⟩ := List.getElem?_eq_some_iff.1 h3
    obtain ⟨i2, e2⟩ := List.getElem?_eq_some_iff.1 h3'
    simp only at hb hb'
    rcases Nat.lt_or_gt_of_ne hkk with h | h
    · exact hp2 k k' i1 i2 h _ (by rw [e1]; exact hb) (by rw [e2]; exact hb')
    · exact hp2 k' k i2 i1 h _ (by rw [e2]; exact hb') (by rw [e1]; exact hb)
  · obtain ⟨hk, k, t, rows, x, f, h1, h2, h3, rfl⟩ := fplc_mem hp; cases hr
  · cases kp
    · exact hb
    · cases hb
  · obtain ⟨o1, o2, _, o4⟩ := hh p hp
    obtain ⟨hk, k, t, rows, x, f, h1, h2, h3, rfl⟩ := fplc_mem hp
    have hO := how k _ x f h1 h2 h3
    refine ⟨?_, rfl⟩
    show Ow P w' Zn (.sl t rows) _ _
    rw [o2, o4]
    by_cases hl : lent = []
    · exact hO.mono (fun b hb => by rcases hsup b hb with h | ⟨m, hm, _⟩; exact h; rw [hl] at hm; cases hm) (fun _ _ => rfl) (fun _ _ => rfl)
    · exact hO.primRows ((keptOk_spec hke).2 hk hl t rows (List.mem_of_getElem? h1))
  · have hkl : k < cs.length := (List.getElem?_eq_some_iff.1 h1).1
    have := fplc_at (kp := kp) hk (n := n) h1 (List.getElem?_eq_getElem (k1 ▸ hkl)) (List.getElem?_eq_getElem (k2 ▸ hkl))
    exact hnu _ this
theorem res_places {res : TV} {v : Value} {f : List Nat} (hres : ResR P w' Z2 res v f) (hnd : f.Nodup) {kp : Bool} {n : Nat} (hkp : keptV kp lent res True) (hlu : ∀ m ∈ lent, memN (m / 64) us = true)
    (hnu : ∀ p ∈ (freshV kp lent n res).2, memN (p.1 / 64) us = true) (hu : uniqN (names (freshV kp lent n res).2) = true) :
    ∃ ps ff, (freshV kp lent n res).2 = ps.map (fun p => (p.n, p.o)) ∧ Places P w' Z2 lent us ps ff f fun st pl Zn => Tr P st pl Zn w' (freshV kp lent n res).1 v ∧ (freshV kp lent n res).1.inU us = true := by
  rcases res_flat hres kp lent n with ⟨cs, xs, fs, k1, k2, rfl, k4, k5, k6, k7, k8⟩ | ⟨row, b, o0, c, ty, fs, rfl, k2, k3, k4, rfl, k6, k7, k8⟩
  · have hmap := fplc_map (kp := kp) (lent := lent) (n := n) k1 k2
    refine ⟨fplc kp n cs xs fs, bif kp then [] else fs.flatten, by rw [hmap]; exact k5, ?_⟩
    have := cells_places (n := n) (us := us) k1 k2 hnd k4 (by rw [← k6]; exact hkp) hlu (fun p hp => hnu (p.n, p.o) (by rw [k5, ← hmap]; exact List.mem_map.2 ⟨p, hp, rfl⟩))
    exact ⟨this.nd, this.dj, this.box, this.sub, fun st pl Zn h1 h2 h3 => by
      obtain ⟨g1, g2, g3⟩ := this.rd st pl Zn h1 h2 h3
      exact ⟨g1, k8 _ _ _ g2, k7 _ g3⟩⟩
  · obtain ⟨xs0, hxs0⟩ : ∃ xs0, xs0 = (c.toList.drop o0).take row.length := ⟨_, rfl⟩
    have hcl : xs0.length = row.length := by rw [hxs0]; simp; omega
    have hxg : ∀ k, k < row.length → xs0[k]? = c[o0 + k]? := fun k hk => by rw [hxs0, List.getElem?_take, if_pos hk, List.getElem?_drop]; simp
    clear hxs0
    have hmap := fplc_map (kp := kp) (lent := lent) (n := n + 1) (xs := xs0) hcl k4
    have hbn : b ∉ fs.flatten := (List.nodup_cons.1 hnd).1
    have hfn : fs.flatten.Nodup := (List.nodup_cons.1 hnd).2
    let bx : Plc := ⟨n, .box (fresh kp lent (n + 1) row).1, undef, (b, o0), [b]⟩
    have hpe : (freshV kp lent n res).2 = (bx :: fplc kp (n + 1) row xs0 fs).map fun p => (p.n, p.o) := by rw [k7]; simp only [List.map_cons, hmap, bx]
    have hnu' : ∀ p ∈ bx :: fplc kp (n + 1) row xs0 fs, memN (p.n / 64) us = true := fun p hp => hnu (p.n, p.o) (by rw [hpe]; exact List.mem_map.2 ⟨p, hp, rfl⟩)
    have k6' : ∀ (k : Nat) (av : AV) (x : Value) (g : List Nat), row[k]? = some av → xs0[k]? = some x → fs[k]? = some g → Ow P w' Z2 av x g := fun k av x g h1 h2 h3 => k6 k av x g h1 (by rw [← hxg k (List.getElem?_eq_some_iff.1 h1).1]; exact h2) h3
    have H := cells_places (n := n + 1) (us := us) hcl k4 hfn k6' (by rw [← k8]; exact hkp) hlu (fun p hp => hnu' p (List.mem_cons_of_mem _ hp))
    refine ⟨bx :: fplc kp (n + 1) row xs0 fs, bif kp then [] else fs.flatten, hpe, ⟨fun p hp => ?_, fun p hp q hq hne b' hb => ?_, fun p hp row hr => ?_, fun b' hb => List.mem_cons_of_mem _ (H.sub b' hb), fun st pl Zn h1 h2 h3 => ?_⟩⟩
    · rcases List.mem_cons.1 hp with rfl | hp
      · refine ⟨by simp [bx], fun b' hb => ?_⟩
        rw [List.mem_singleton.1 hb]
        refine ⟨List.mem_cons_self .., ?_⟩
        cases kp
        · exact hbn
        · exact List.not_mem_nil
      · obtain ⟨g1, g2⟩ := H.nd p hp
        exact ⟨g1, fun b' hb => ⟨List.mem_cons_of_mem _ (g2 b' hb).1, (g2 b' hb).2⟩⟩
    · rcases List.mem_cons.1 hp with rfl | hp <;> rcases List.mem_cons.1 hq with rfl | hq
      · exact absurd rfl hne
      · rw [List.mem_singleton.1 hb]
        exact fun h => hbn ((H.nd q hq).2 _ h).1
      · exact fun h => hbn (by rw [← List.mem_singleton.1 h]; exact ((H.nd p hp).2 _ hb).1)
      · exact H.dj p hp q hq hne b' hb
    · rcases List.mem_cons.1 hp with rfl | hp
      · exact List.mem_singleton.2 rfl
      · exact H.box p hp row hr
    · obtain ⟨g1, g2, g3⟩ := H.rd st pl Zn h1 h2 fun p hp => h3 p (List.mem_cons_of_mem _ hp)
      obtain ⟨o1, _, o2, o3⟩ := h3 bx (List.mem_cons_self ..)
      refine ⟨fun p hp => ?_, ?_, ?_⟩
      · rcases List.mem_cons.1 hp with rfl | hp
        · refine ⟨⟨by rw [o2, o3], c, ty, by rw [o2]; exact k2, by rw [o2]; simp [fresh_len, bx]; exact k3, fun k av y hk hy => ?_⟩, g3⟩
          rw [o2] at hy
          exact g2.2 k av y hk (by rw [hxg k (by have := (List.getElem?_eq_some_iff.1 hk).1; rwa [fresh_len] at this)]; exact hy)
        · exact g1 p hp
      · rw [show (freshV kp lent n res).1 = .one (.ptr n 0 0) by rw [k7]]
        intro o' ho'
        have : o' = .box (fresh kp lent (n + 1) row).1 := Option.some.inj (ho'.symm.trans o1)
        subst this
        simp only [ptrAt]
        rw [o2]
        rfl
      · rw [show (freshV kp lent n res).1 = .one (.ptr n 0 0) by rw [k7]]
        exact hnu' bx (List.mem_cons_self ..)
end
section
variable {P : Program} {cx : Cx} {st : St} {a : Act} {w : World} {pl : Pl} {Z : Nat → Prop}
theorem callio_step (R : Rel P cx st a w pl Z) {dst : Option Nat} {uid : Nat} {pk : Pk} {ps : List Plc} {lent fin : List Nat} {cio : Option Io} (hok : okPk st uid pk = true) (hput : pk.put = ps.map fun p => (p.n, p.o))
    (hlent : ∀ m ∈ lent, st.has m ∧ ∀ p ∈ ps, p.n ≠ m) (hold : ∀ p ∈ ps, ∀ o, lk st.s p.n = some o → o.like p.o ∧ p.h = pl.hdr p.n ∧ p.ad = pl.adr p.n)
    (hW : ∀ b, (b ∈ fin ∨ ∃ i, cio = some i ∧ b = i.b) → Wr st pl pk b) (hfa : ∀ b ∈ fin, ∀ i, cx.io = some i → b ≠ i.b)
    (hcan : ∀ j, cx.io = some j → ∀ i, cio = some i → j.b = i.b → ∀ k, i.can k → j.can k)
    {w' : World} {Z2 : Nat → Prop} {ff f : List Nat} {v : Value} (hF : Frm w w' fin cio) (hZ : ∀ b, Sup pl Z lent b → Z2 b) (hZ2 : ∀ b, Z2 b → (Sup pl Z lent b ∨ b ∈ fin ∨ w.heap.size ≤ b) ∧ b < w'.heap.size)
    (hf : ∀ b ∈ f, (b ∈ fin ∨ w.heap.size ≤ b) ∧ b < w'.heap.size ∧ ¬ Z2 b) (hff : ∀ b ∈ ff, b ∈ f)
    (hb : ∀ p ∈ ps, p.f.Nodup ∧ ∀ b ∈ p.f, b ∉ ff ∧ (b ∈ f ∨ (Wr st pl pk b ∧ b < w'.heap.size ∧ ¬ Z2 b ∧ ¬ Z b)))
    (hdj : ∀ p ∈ ps, ∀ q ∈ ps, p.n ≠ q.n → ∀ b ∈ p.f, b ∉ q.f)
    (hbox : ∀ i, cx.io = some i → ∀ p ∈ ps, ∀ row, p.o = .box row → p.ad.1 = i.b → p.ad.2 = i.o ∧ row.map (fun a => !a.isNa) = i.m)
    (harr : ∀ i, cx.io = some i → ∀ p ∈ ps, (∃ t rows q, p.o = .arr t rows q) → i.b ∉ p.f)
    (hob : (∀ b, Z2 b → Sup (over pl ps) (ZNew Z Z2 fin ff w.heap.size) lent b) → Held (apply st dst uid pk) (over pl ps) ps → ∀ p ∈ ps, ObR P (apply st dst uid pk) (over pl ps) (ZNew Z Z2 fin ff w.heap.size) w' p.n p.o ∧ p.o.inU (uid :: st.u) = true)
    (hval : (∀ b, Z2 b → Sup (over pl ps) (ZNew Z Z2 fin ff w.heap.size) lent b) → Held (apply st dst uid pk) (over pl ps) ps → Tr P (apply st dst uid pk) (over pl ps) (ZNew Z Z2 fin ff w.heap.size) w' pk.val v ∧ pk.val.inU (uid :: st.u) = true) :
    Step P cx st w pl Z dst uid pk v w' (over pl ps) (ZNew Z Z2 fin ff w.heap.size) := by
  have hnm : names pk.put = ps.map (·.n) := by rw [hput, names_map]
  have hu' : uniqN (ps.map (·.n)) = true := by have := okPk_uniq hok; rw [← hnm]; exact this
  have chg : Chg w w' (Wr st pl pk) := ⟨hF.os, hF.tape, hF.output, hF.size, fun k hk hnk => hF.blk k hk (fun h => hnk (hW k (.inl h))) fun i hi e => hnk (hW k (.inr ⟨i, hi, e⟩))⟩
  have hWm : ∀ b, Wr st pl pk b → b < w.heap.size ∧ ¬ Z b ∧ cx.may b := by
    rintro b ⟨n, _, hn, hb⟩
    exact R.lt n hn b hb
  have hmay : ∀ b, (b ∈ fin ∨ w.heap.size ≤ b) → cx.mayZ b := by
    intro b hb
    rcases hb with hb | hb
    · obtain ⟨h1, h2, h3⟩ := hWm b (hW b (.inl hb))
      refine ⟨?_, hfa b hb⟩
      rcases h3 with h | ⟨i, hi, e⟩ | h
      · exact .inr (.inl h)
      · exact absurd e (hfa b hb i hi)
      · exact .inr (.inr h)
    · exact ⟨.inr (.inr (Nat.le_trans R.fr.size hb)), fun i hi e => by have := io_lt R hi; omega⟩
  have hsup : ∀ b, Z2 b → Sup (over pl ps) (ZNew Z Z2 fin ff w.heap.size) lent b := by
    intro b hb
    rcases (hZ2 b hb).1 with (h | ⟨m, hm, h⟩) | h | h
    · exact .inl (.inl h)
    · refine .inr ⟨m, hm, ?_⟩
      rw [(over_not (pl := pl) (ps := ps) (n := m) (fun hmm => ?_)).2.2]
      · exact h
      · obtain ⟨p, hp, e⟩ := List.mem_map.1 hmm
        exact (hlent m hm).2 p hp e
    · exact .inl (.inr (.inl ⟨hb, .inl h⟩))
    · exact .inl (.inr (.inl ⟨hb, .inr h⟩))
  have hheld : Held (apply st dst uid pk) (over pl ps) ps := fun p hp => ⟨apply_put hput hu' hp, over_at hu' hp⟩
  have hfrm : Frm cx.w0 w' cx.own0 cx.io := by
    refine ⟨hF.os.trans R.fr.os, hF.tape.trans R.fr.tape, hF.output.trans R.fr.output, Nat.le_trans R.fr.size hF.size, fun k hk h1 h2 => ?_, fun j hj => ?_⟩
    · have hnw : ¬ Wr st pl pk k := fun h => by
        rcases (hWm k h).2.2 with h | ⟨i, hi, e⟩ | h
        · exact h1 h
        · exact h2 i hi e
        · omega
      rw [chg.blk k (Nat.lt_of_lt_of_le hk R.fr.size) hnw]
      exact R.fr.blk k hk h1 h2
    · obtain ⟨c, c', ty, e1, e2, e3, e4⟩ := R.fr.iob j hj
      have hjl := (Array.getElem?_eq_some_iff.1 e2).1
      by_cases hex : ∃ i, cio = some i ∧ j.b = i.b
      · obtain ⟨i, hi, hb⟩ := hex
        obtain ⟨d, d', ty', g1, g2, g3, g4⟩ := hF.iob i hi
        rw [← hb, e2] at g1
        simp only [Option.some.injEq, Obj.cells.injEq, and_true] at g1
        obtain ⟨rfl, rfl⟩ := g1
        refine ⟨c, d', ty, e1, by rw [hb]; exact g2, by omega, fun k hk => ?_⟩
        rw [← e4 k hk]
        exact g4 k fun h => hk (hcan j hj i hi hb k h)
      · refine ⟨c, c', ty, e1, ?_, e3, e4⟩
        rw [hF.blk j.b hjl (fun h => hfa _ h j hj rfl) fun i hi e => hex ⟨i, hi, e⟩]
        exact e2
  refine Step.of R hok ps hput chg hfrm hold (fun b h => .inl h) (fun b h => ?_) (fun p hp => ?_) hdj (fun d _ => hval hsup hheld) hbox harr
  · rcases h with h | ⟨h1, h2⟩ | h
    · exact .inl h
    · exact .inr ⟨h2.imp_left fun h => hW b (.inl h), (hZ2 b h1).2, hmay b h2⟩
    · obtain ⟨h1, h2, _⟩ := hf b (hff b h)
      exact .inr ⟨h1.imp_left fun h => hW b (.inl h), h2, hmay b h1⟩
  · obtain ⟨h1, h2⟩ := hob hsup hheld p hp
    obtain ⟨h3, h4⟩ := hb p hp
    refine ⟨h1, h3, h2, fun b hbf => ?_⟩
    obtain ⟨g4, g⟩ := h4 b hbf
    rcases g with g | ⟨g1, g2, g3, g5⟩
    · obtain ⟨k1, k2, k3⟩ := hf b g
      refine ⟨k2, ?_, ?_⟩
      · rintro (h | ⟨h, _⟩ | h)
        · exact k3 (hZ b (.inl h))
        · exact k3 h
        · exact g4 h
      · rcases k1 with h | h
        · exact .inr (hW b (.inl h))
        · exact .inl h
    · refine ⟨g2, ?_, .inr g1⟩
      rintro (h | ⟨h, _⟩ | h)
      · exact g5 h
      · exact g3 h
      · exact g4 h
end
end Go.AM
end
section
namespace Go.AM
open Go
set_option linter.unusedVariables false
theorem outsR_nil {P : Program} {w : World} {Z : Nat → Prop} {io : Option Io} {ins : List (Mode × TV)} {vals : List Value} {outs : List TV} {g : List Nat} (h : OutsR P w Z io ins vals outs g) (he : outs = []) : g = [] := by
  induction h with
  | nil => rfl
  | pure _ ih => exact ih he
  | own _ ih => exact ih he
  | _ => cases he
theorem ioBox_sound {st : St} : ∀ {seg : List AV} {del : List Nat} {k : List AV → List Nat → List (Nat × Ob) → List Nat → Prop}, ioBox st seg del k →
    ∃ (cs : List AV) (ns : List Nat) (ro : List (Nat × Ob)) (ds : List Nat), k cs ns ro (ds.reverse ++ del) ∧ RdO ro st ∧ cs.length = seg.length ∧ (∀ n ∈ ns, ∃ o, lk ro n = some o) ∧ ds.Nodup ∧ (∀ m ∈ ds, m ∉ del) ∧ (∀ m ∈ ds, ∃ t rows, lk ro m = some (.arr t rows false)) ∧
      (cs.map AV.isNa = seg.map AV.isNa) ∧
      ∀ (P : Program) (cx : Cx) (st' : St) (a : Act) (w : World) (pl : Pl) (Z S : Nat → Prop), Rel P cx st' a w pl Z → RdO ro st' → (∀ b, Sup pl Z ns b → S b) → ∀ xs, Ars P st' pl Z w seg xs →
        ∃ fs : List (List Nat), fs.length = cs.length ∧ fs.flatten = ds.flatMap pl.own ∧ ∀ (k : Nat) (av : AV) (x : Value) (f : List Nat), cs[k]? = some av → xs[k]? = some x → fs[k]? = some f → (av = .na ∧ f = []) ∨ Ow P w S av x f
  | [], del, k, h => ⟨[], [], [], [], h, RdO.nil, rfl, by simp, List.nodup_nil, by simp, by simp, rfl, fun P cx st' a w pl Z S R hr hS xs hx => ⟨[], rfl, rfl, by simp⟩⟩
  | c :: r, del, k, h => by
    cases c with
    | na =>
      simp only [ioBox] at h
      obtain ⟨cs, ns, ro, ds, h, h1, h2, h3, h4, h5, h6, h7, h8⟩ := ioBox_sound h
      refine ⟨.na :: cs, ns, ro, ds, h, h1, by simp [h2], h3, h4, h5, h6, by rw [List.map_cons, List.map_cons, h7], fun P cx st' a w pl Z S R hr hS xs hx => ?_⟩
      match xs, hx with
      | [], hx => exact absurd hx.1 (by simp)
      | x :: xs, hx =>
        obtain ⟨fs, e1, e2, e3⟩ := h8 P cx st' a w pl Z S R hr hS xs ⟨by simpa using hx.1, fun k av y hk hy => hx.2 (k + 1) av y (by simpa using hk) (by simpa using hy)⟩
        refine ⟨[] :: fs, by simp [e1], by simpa using e2, fun k av y f hk hy hf => ?_⟩
        cases k with
        | zero => simp at hk hy hf; subst hk; subst hf; exact .inl ⟨rfl, rfl⟩
        | succ k => exact e3 k av y f (by simpa using hk) (by simpa using hy) (by simpa using hf)
    | prim v =>
      simp only [ioBox] at h
      obtain ⟨cs, ns, ro, ds, h, h1, h2, h3, h4, h5, h6, h7, h8⟩ := ioBox_sound h
      refine ⟨.prim v :: cs, ns, ro, ds, h, h1, by simp [h2], h3, h4, h5, h6, by rw [List.map_cons, List.map_cons, h7], fun P cx st' a w pl Z S R hr hS xs hx => ?_⟩
      match xs, hx with
      | [], hx => exact absurd hx.1 (by simp)
      | x :: xs, hx =>
        obtain ⟨fs, e1, e2, e3⟩ := h8 P cx st' a w pl Z S R hr hS xs ⟨by simpa using hx.1, fun k av y hk hy => hx.2 (k + 1) av y (by simpa using hk) (by simpa using hy)⟩
        refine ⟨[] :: fs, by simp [e1], by simpa using e2, fun k av y f hk hy hf => ?_⟩
        cases k with
        | zero => simp at hk hy hf; subst hk; subst hy; subst hf; obtain ⟨rfl, h⟩ := hx.2 0 _ _ rfl rfl; exact .inr (.prim h)
        | succ k => exact e3 k av y f (by simpa using hk) (by simpa using hy) (by simpa using hf)
    | fr ms t rows =>
      simp only [ioBox] at h
      obtain ⟨ro0, h, a1, a2⟩ := alive_names h
      obtain ⟨cs, ns, ro, ds, h, h1, h2, h3, h4, h5, h6, h7, h8⟩ := ioBox_sound h
      have hro6 : ∀ m ∈ ds, ∃ t rows, lk (ro0 ++ ro) m = some (.arr t rows false) := fun q hq => by
        rw [lk_append]
        obtain ⟨t, rows, e⟩ := h6 q hq
        cases hl : lk ro0 q with
        | none => exact ⟨t, rows, by simpa using e⟩
        | some o =>
          have e1 := a1.mem hl
          have e2 := h1.mem e
          rw [e1] at e2
          exact ⟨t, rows, by simpa using e2⟩
      refine ⟨.fr [] t rows :: cs, ms ++ ns, ro0 ++ ro, ds, h, RdO.append.2 ⟨a1, h1⟩, by simp [h2], names_append a2 h3, h4, h5, hro6, by rw [List.map_cons, List.map_cons, h7]; rfl, fun P cx st' a w pl Z S R hr hS xs hx => ?_⟩
      obtain ⟨hr1, hr2⟩ := RdO.append.1 hr
      match xs, hx with
      | [], hx => exact absurd hx.1 (by simp)
      | x :: xs, hx =>
        obtain ⟨fs, e1, e2, e3⟩ := h8 P cx st' a w pl Z S R hr2 (fun b hb => hS b (Sup.mono (fun n hn => List.mem_append_right _ hn) hb)) xs ⟨by simpa using hx.1, fun k av y hk hy => hx.2 (k + 1) av y (by simpa using hk) (by simpa using hy)⟩
        refine ⟨[] :: fs, by simp [e1], by simpa using e2, fun k av y f hk hy hf => ?_⟩
        cases k with
        | zero =>
          simp at hk hy hf; subst hk; subst hy; subst hf
          have h0 : (∀ n ∈ ms, st'.has n) → Rd P w (Sup pl Z ms) (.sl t rows) _ := hx.2 0 _ _ rfl rfl
          exact .inr <| .fr0 ((h0 (has_of hr1 a2)).mono (fun b hb => hS b (Sup.mono (fun n hn => List.mem_append_left _ hn) hb)) fun _ _ => rfl)
        | succ k => exact e3 k av y f (by simpa using hk) (by simpa using hy) (by simpa using hf)
    | ref m =>
      simp only [ioBox] at h
      split at h
      · rename_i t rows hm hl
        obtain ⟨cs, ns, ro, ds, h, h1, h2, h3, h4, h5, h6, h7, h8⟩ := ioBox_sound h
        refine ⟨.sl t rows :: cs, ns, (m, .arr t rows false) :: ro, m :: ds, by simpa using h, RdO.cons.2 ⟨hl, h1⟩, by simp [h2], fun n hn => ?_, List.nodup_cons.2 ⟨fun hmm => h5 m hmm (by simp), h4⟩, fun q hq => ?_, fun q hq => ?_, by rw [List.map_cons, List.map_cons, h7]; rfl, fun P cx st' a w pl Z S R hr hS xs hx => ?_⟩
        · obtain ⟨o, ho⟩ := h3 n hn
          rw [lk_cons]
          split
          · exact ⟨_, rfl⟩
          · exact ⟨o, ho⟩
        · rcases List.mem_cons.1 hq with rfl | hq
          · exact memN_false.1 hm
          · exact fun hd => h5 q hq (List.mem_cons_of_mem _ hd)
        · rw [lk_cons]
          split
          · rename_i e; exact ⟨t, rows, rfl⟩
          · rename_i e
            rcases List.mem_cons.1 hq with rfl | hq
            · exact absurd rfl e
            · exact h6 q hq
        · obtain ⟨hr1, hr2⟩ := RdO.cons.1 hr
          match xs, hx with
          | [], hx => exact absurd hx.1 (by simp)
          | x :: xs, hx =>
            obtain ⟨fs, e1, e2, e3⟩ := h8 P cx st' a w pl Z S R hr2 hS xs ⟨by simpa using hx.1, fun k av y hk hy => hx.2 (k + 1) av y (by simpa using hk) (by simpa using hy)⟩
            refine ⟨pl.own m :: fs, by simp [e1], by simp [e2], fun k av y f hk hy hf => ?_⟩
            cases k with
            | zero =>
              simp at hk hy hf; subst hk; subst hy; subst hf
              have h0 : x = pl.hdr m := hx.2 0 _ _ rfl rfl t rows false hr1
              rw [h0]
              have := R.obj m _ hr1
              exact .inr (Ow.mono this (fun b hb => hS b (.inl hb)) (fun _ _ => rfl) (fun _ _ => rfl))
            | succ k => exact e3 k av y f (by simpa using hk) (by simpa using hy) (by simpa using hf)
      · exact h.elim
    | _ => simp only [ioBox] at h
theorem keepsL_drop {ks ks' : List Nat} {a : AV} (h : keepsL ks a = true) (hk : ∀ m ∈ ks', m ∈ ks) : a.drop ks' = a := by
  have hit : ∀ ns : List Nat, hitN ns ks = false → hitN ns ks' = false := fun ns h => hitN_false.2 fun m hm hmk => hitN_false.1 h m hm (hk m hmk)
  cases a <;> simp only [keepsL, AV.tag1, Bool.not_eq_true', AV.drop] at h ⊢
  · rw [hit _ h]; rfl
  · rw [hit _ h]; rfl
  · rename_i f caps
    have : anyTag ks' caps = false := anyTag_false.2 fun a ha => by
      have := anyTag_false.1 h a ha
      cases a <;> simp only [AV.tag1] at this ⊢ <;> exact hit _ this
    rw [this]; rfl
theorem fresh_na {kp : Bool} {lent : List Nat} {n : Nat} {cs : List AV} : ∀ av ∈ (fresh kp lent n cs).1, av.isNa = false := by
  intro av hav
  obtain ⟨k, hk, rfl⟩ := List.mem_iff_getElem.1 hav
  have hkl : k < cs.length := by rw [fresh_len] at hk; exact hk
  obtain ⟨c', h1, h2⟩ := fresh_get (kp := kp) (lent := lent) (n := n) (List.getElem?_eq_getElem hkl)
  rw [List.getElem?_eq_getElem hk] at h1
  simp only [Option.some.injEq] at h1
  rw [h1]
  rcases h2 with ⟨t, rows, e1, e2, rfl⟩ | ⟨t, rows, e1, e2, rfl⟩ | ⟨t, rows, e1, rfl⟩ | ⟨v, e1, rfl⟩ | rfl <;> rfl
theorem splice_at {row cs : List AV} {off k : Nat} (h : off + cs.length ≤ row.length) : (splice row off cs)[k]? = if off ≤ k ∧ k < off + cs.length then cs[k - off]? else row[k]? := by
  unfold splice
  rw [takeC_eq, dropC_eq]
  exact put_get h
theorem ioAll {P : Program} {w : World} {Z : Nat → Prop} {i : Io} {row : List AV} {f : List Nat} (h : IoR P w Z i row f) (hm : ∀ b ∈ i.m, b = true) : ∃ (c : Array Value) (ty : Nat) (xs : List Value) (fs : List (List Nat)), w.heap[i.b]? = some (.cells c ty (0, 0)) ∧ i.o + row.length ≤ c.size ∧ row.length = i.m.length ∧ fs.length = row.length ∧ f = fs.flatten ∧
    xs.length = row.length ∧ (∀ k, k < row.length → xs[k]? = c[i.o + k]?) ∧ ∀ (k : Nat) (av : AV) (x : Value) (g : List Nat), row[k]? = some av → xs[k]? = some x → fs[k]? = some g → Ow P w Z av x g := by
  obtain ⟨h1, c, ty, fs, h2, h3, h4, h5, h6⟩ := h
  let xs : List Value := (c.toList.drop i.o).take row.length
  have hxl : xs.length = row.length := by simp [xs]; omega
  have hxg : ∀ k, k < row.length → xs[k]? = c[i.o + k]? := fun k hk => by simp only [xs]; rw [List.getElem?_take, if_pos hk, List.getElem?_drop]; simp
  refine ⟨c, ty, xs, fs, h2, h3, by rw [h1]; simp, h4, h5, hxl, hxg, fun k av x g hk hx hg => ?_⟩
  have hkl := (List.getElem?_eq_some_iff.1 hk).1
  rcases h6 k av g hk hg with ⟨rfl, _⟩ | ⟨y, hy, h⟩
  · exfalso
    have : i.m[k]? = some false := by rw [h1, List.getElem?_map, hk]; rfl
    have := hm _ (List.mem_of_getElem? this)
    cases this
  · rw [hxg k hkl, hy] at hx; cases hx; exact h
theorem ioAll' {P : Program} {w : World} {Z : Nat → Prop} {i : Io} {row : List AV} {f : List Nat} (h : IoR P w Z i row f) : ∃ (c : Array Value) (ty : Nat) (xs : List Value) (fs : List (List Nat)), w.heap[i.b]? = some (.cells c ty (0, 0)) ∧ i.o + row.length ≤ c.size ∧ i.m = row.map (fun a => !a.isNa) ∧ fs.length = row.length ∧ f = fs.flatten ∧
    xs.length = row.length ∧ (∀ k a, row[k]? = some a → a.isNa = false → xs[k]? = c[i.o + k]?) ∧ ∀ (k : Nat) (av : AV) (x : Value) (g : List Nat), (row.map naP)[k]? = some av → xs[k]? = some x → fs[k]? = some g → Ow P w Z av x g := by
  obtain ⟨h1, c, ty, fs, h2, h3, h4, h5, h6⟩ := h
  refine ⟨c, ty, (List.range row.length).map fun k => bif (row.getD k .na).isNa then .bool true else c.getD (i.o + k) undef, fs, h2, h3, h1, h4, h5, by simp, fun k a hk hn => ?_, fun k av x g hk hx hg => ?_⟩
  · have hkl := (List.getElem?_eq_some_iff.1 hk).1
    rw [List.getElem?_map, List.getElem?_range hkl]
    simp only [Option.map_some, List.getD_eq_getElem?_getD, hk, Option.getD_some, hn, cond_false]
    rw [Array.getD_eq_getD_getElem?, Array.getElem?_eq_getElem (by omega)]; rfl
  · rw [List.getElem?_map] at hk
    cases hr : row[k]? with
    | none => rw [hr] at hk; cases hk
    | some a =>
      rw [hr] at hk
      simp only [Option.map_some, Option.some.injEq] at hk
      have hkl := (List.getElem?_eq_some_iff.1 hr).1
      rw [List.getElem?_map, List.getElem?_range hkl] at hx
      simp only [Option.map_some, Option.some.injEq, List.getD_eq_getElem?_getD, hr, Option.getD_some] at hx
      rcases h6 k a g hr hg with ⟨rfl, rfl⟩ | ⟨y, hy, h⟩
      · subst hk hx; exact .prim rfl
      · have hna : a.isNa = false := by cases a <;> first | rfl | (cases h)
        have hnp : naP a = a := by cases a <;> first | rfl | (cases hna)
        rw [hna] at hx
        rw [hnp] at hk
        subst hk
        simp only [cond_false] at hx
        rw [Array.getD_eq_getD_getElem?, hy] at hx
        simp only [Option.getD_some] at hx
        subst hx; exact h
theorem maskIo_get (lo hi : Nat) : ∀ (i : Nat) (l : List AV) (k : Nat) (c : AV), (maskIo lo hi i l)[k]? = some c → c = .na ∨ l[k]? = some c
  | _, [], _, _, h => by cases h
  | i, a :: r, 0, c, h => by
    simp only [maskIo, List.getElem?_cons_zero, Option.some.injEq] at h
    cases h1 : Nat.ble lo i <;> rw [h1] at h
    · exact .inl h.symm
    · cases h2 : Nat.blt i hi <;> rw [h2] at h
      · exact .inl h.symm
      · exact .inr (by rw [← h]; rfl)
  | i, a :: r, k + 1, c, h => by
    simp only [maskIo, List.getElem?_cons_succ] at h ⊢
    exact maskIo_get lo hi (i + 1) r k c h
theorem maskIo_len (lo hi : Nat) : ∀ (i : Nat) (l : List AV), (maskIo lo hi i l).length = l.length
  | _, [] => rfl
  | i, a :: r => by simp only [maskIo, List.length_cons, maskIo_len lo hi (i + 1) r]
theorem maskS_spec (lo hi : Nat) (l : List AV) : (maskS lo hi l).length = l.length ∧ ∀ (k : Nat) (c : AV), (maskS lo hi l)[k]? = some c → c = .na ∨ l[k]? = some c := by
  cases hi with
  | zero => exact ⟨rfl, fun k c h => .inr h⟩
  | succ hi => exact ⟨maskIo_len _ _ _ _, maskIo_get _ _ _ _⟩
theorem unmask_get : ∀ (bs os ns : List AV), bs.length = os.length → ns.length = os.length → (unmask bs os ns).length = os.length ∧ ∀ (k : Nat) (b : AV), bs[k]? = some b → (unmask bs os ns)[k]? = bif b.isNa then os[k]? else ns[k]?
  | [], [], [], _, _ => ⟨rfl, fun k b h => by cases h⟩
  | b :: bs, o :: os, n :: ns, h1, h2 => by
    obtain ⟨i1, i2⟩ := unmask_get bs os ns (by simpa using h1) (by simpa using h2)
    cases b <;> refine ⟨by simp [unmask, i1], fun k b h => ?_⟩ <;> cases k <;> simp only [unmask, List.getElem?_cons_zero, List.getElem?_cons_succ, Option.some.injEq] at h ⊢ <;> first | (subst h; rfl) | exact i2 _ b h
  | [], _ :: _, _, h, _ => by simp at h
  | _ :: _, [], _, h, _ => by simp at h
  | _, [], _ :: _, _, h => by simp at h
  | _, _ :: _, [], _, h => by simp at h
theorem outsR_io {P : Program} {w : World} {Z : Nat → Prop} {i : Io} {lo hi : Nat} {v : TV} {ins : List (Mode × TV)} {vals : List Value} {bs : List AV} {g : List Nat} (h : OutsR P w Z (some i) ((.io lo hi, v) :: ins) vals [.agg bs] g) : IoR P w Z i bs g := by
  cases h with
  | io he h t =>
    cases he
    have := outsR_nil t rfl
    subst this
    rw [List.append_nil]; exact h
section
variable {P : Program} {o : Oper} {uid : Nat}
theorem good_callB {c : Call} {fo : Operand} {f : Nat} (ho : o.op = .call c) (hc : c.callee = .value fo) {rt : List (Nat × TV)} {r : List TV} {n off : Nat} {row : List AV}
    (hargs : ∀ (cx : Cx) (st : St) (a : Act) (w : World) (pl : Pl) (Z : Nat → Prop), Rel P cx st a w pl Z → RdT rt st → ∃ capsV : Array Value, a.eval fo = .func (.func f) #[] capsV ∧ (c.args.map a.eval ++ capsV).toList.length = (TV.one (.ptr n 0 off) :: r).length ∧
      ∀ (j : Nat) (v : TV) (x : Value), (TV.one (.ptr n 0 off) :: r)[j]? = some v → (c.args.map a.eval ++ capsV).toList[j]? = some x → Tr P st pl Z w v x)
    {tn : Nat} (hle : off + tn ≤ row.length) {mseg : List AV} (hms : mseg.length = (takeC tn (dropC off row)).length ∧ ∀ (k : Nat) (c : AV), mseg[k]? = some c → c = .na ∨ (takeC tn (dropC off row))[k]? = some c) {st0 : St} {cs : List AV} {ns : List Nat} {ro1 : List (Nat × Ob)} {ds1 : List Nat}
    (hio1 : RdO ro1 st0) (hcl : cs.length = mseg.length) (hns : ∀ n ∈ ns, ∃ o, lk ro1 n = some o) (hds1 : ds1.Nodup) (hda1 : ∀ m ∈ ds1, ∃ t rows, lk ro1 m = some (.arr t rows false)) (hpat : cs.map AV.isNa = mseg.map AV.isNa)
    (hcells : ∀ (P : Program) (cx : Cx) (st' : St) (a : Act) (w : World) (pl : Pl) (Z S : Nat → Prop), Rel P cx st' a w pl Z → RdO ro1 st' → (∀ b, Sup pl Z ns b → S b) → ∀ xs, Ars P st' pl Z w mseg xs →
        ∃ fs : List (List Nat), fs.length = cs.length ∧ fs.flatten = ds1.flatMap pl.own ∧ ∀ (k : Nat) (av : AV) (x : Value) (f : List Nat), cs[k]? = some av → xs[k]? = some x → fs[k]? = some f → (av = .na ∧ f = []) ∨ Ow P w S av x f)
    {ins : List (Mode × TV)} {lent ds2 : List Nat} {ro2 : List (Nat × Ob)} (hg : GathOk st0 r ds1.reverse ins lent ro2 ds2) (hdis : ∀ m ∈ n :: (ds2.reverse ++ ds1.reverse), m ∉ ns ++ lent) {bs : List AV} {res : TV}
    (hsem : Sem P f ((.io 0 0, .agg cs) :: ins) [.agg bs] res) {kp : Bool} (hkb : keptOk true (ns ++ lent) (bs.map naP) True) (hkp : keptV kp (ns ++ lent) res True)
    (hkeep : ∀ av ∈ splice row off (unmask bs (takeC tn (dropC off row)) (fresh true (ns ++ lent) (uid * 64 + 32) (bs.map naP)).1), keepsL (n :: (ds2.reverse ++ ds1.reverse)) av = true)
    (hin1 : namesIn uid (fresh true (ns ++ lent) (uid * 64 + 32) (bs.map naP)).2 = true) (hin2 : namesIn uid (freshV kp (ns ++ lent) (uid * 64) res).2 = true) :
    Good P o uid ⟨rt, (n, .box row) :: (ro1 ++ ro2), (freshV kp (ns ++ lent) (uid * 64) res).1,
      (n, .box (splice row off (unmask bs (takeC tn (dropC off row)) (fresh true (ns ++ lent) (uid * 64 + 32) (bs.map naP)).1))) :: ((fresh true (ns ++ lent) (uid * 64 + 32) (bs.map naP)).2 ++ (freshV kp (ns ++ lent) (uid * 64) res).2), ds2.reverse ++ ds1.reverse⟩ := by
  intro cx st a w pl Z R ht hro hok K Q hK
  obtain ⟨capsV, e1, e2, e3⟩ := hargs cx st a w pl Z R ht
  have hob := (RdO.cons.1 hro).1
  obtain ⟨hr1, hr2⟩ := RdO.append.1 (RdO.cons.1 hro).2
  obtain ⟨_, g2, g3, g4, g5, g6⟩ := hg
  have hrun := run_callFn (w := w) ho hc e1 hsem.1
  have hn : st.has n := by unfold St.has St.O; rw [hob]; rfl
  obtain ⟨hown, cc, ty, hcc, hsz, hrr⟩ := R.obj n _ hob
  have hseg : (takeC tn (dropC off row)).length = tn := by rw [takeC_eq, dropC_eq]; simp; omega
  have hctn : cs.length = tn := by rw [hcl, hms.1, hseg]
  generalize hsegE : takeC tn (dropC off row) = seg at *
  let L := ns ++ lent
  let ds := ds1 ++ ds2
  have hdsn : ds.Nodup := List.nodup_append.2 ⟨hds1, g3, fun p hp q hq e => by subst e; exact g4 p hq (List.mem_reverse.2 hp)⟩
  have hdarr : ∀ m ∈ ds, ∃ t rows p, lk st.s m = some (.arr t rows p) := fun m hm => by
    rcases List.mem_append.1 hm with h | h
    · obtain ⟨t, rows, e⟩ := hda1 m h; exact ⟨t, rows, false, hr1.mem e⟩
    · obtain ⟨t, rows, e⟩ := g5 m h; exact ⟨t, rows, false, hr2.mem e⟩
  have hdh : ∀ m ∈ ds, st.has m := fun m hm => by obtain ⟨t, r, p, h⟩ := hdarr m hm; unfold St.has St.O; rw [h]; rfl
  have hdn : ∀ m ∈ ds, m ≠ n := fun m hm e => by obtain ⟨t, r, p, h⟩ := hdarr m hm; rw [e, hob] at h; cases h
  have hLn : ∀ m ∈ L, ∃ o, lk (ro1 ++ ro2) m = some o := names_append hns g2
  have hLh : ∀ m ∈ L, st.has m := has_of (RdO.append.2 ⟨hr1, hr2⟩) hLn
  have hLd : ∀ m ∈ L, m ≠ n ∧ m ∉ ds := fun m hm => ⟨fun e => hdis n (List.mem_cons_self ..) (e ▸ hm), fun h => hdis m (List.mem_cons_of_mem _ (by simp only [List.mem_append, List.mem_reverse]; exact (List.mem_append.1 h).symm)) hm⟩
  have hlu : ∀ m ∈ L, memN (m / 64) (uid :: st.u) = true := fun m hm => by
    obtain ⟨o, ho⟩ := hLn m hm
    exact memN_cons (R.us m o ((RdO.append.2 ⟨hr1, hr2⟩ : RdO (ro1 ++ ro2) st).mem ho)).1
  let S := Sup pl Z L
  let fin := ds.flatMap pl.own
  let i : Io := ⟨(pl.adr n).1, (pl.adr n).2 + off, cs.map fun c => !c.isNa⟩
  have hbn : (pl.adr n).1 ∈ pl.own n := by rw [hown]; exact List.mem_singleton.2 rfl
  obtain ⟨hbl, hbZ, hbm⟩ := R.lt n hn _ hbn
  obtain ⟨x0, xr, hxx⟩ : ∃ x0 xr, (c.args.map a.eval ++ capsV).toList = x0 :: xr := by
    cases h : (c.args.map a.eval ++ capsV).toList with
    | nil => rw [h] at e2; simp at e2
    | cons x0 xr => exact ⟨x0, xr, rfl⟩
  rw [hxx] at e2 e3
  have hx0 : x0 = .pointer (some ⟨(pl.adr n).1, (pl.adr n).2 + off, none⟩) := e3 0 _ x0 rfl rfl _ hob
  have hrest := g6 P cx st a w pl Z S R hr2 (fun b hb => Sup.mono (fun m hm => List.mem_append_right _ hm) hb) (some i) xr (by simpa using e2) fun j v x hv hx => e3 (j + 1) v x (by simpa using hv) (by simpa using hx)
  let xs : List Value := ((cc.toList.drop ((pl.adr n).2 + off)).take tn)
  have hxl : xs.length = tn := by simp [xs]; omega
  have hxg : ∀ k, k < tn → xs[k]? = cc[(pl.adr n).2 + off + k]? := fun k hk => by simp only [xs]; rw [List.getElem?_take, if_pos hk, List.getElem?_drop]; simp
  have hsegg : ∀ k av, seg[k]? = some av → row[off + k]? = some av := fun k av hk => by
    rw [← hsegE, takeC_eq, dropC_eq, List.getElem?_take] at hk
    split at hk
    · rw [List.getElem?_drop] at hk; exact hk
    · cases hk
  obtain ⟨fs1, f1, f2, f3⟩ := hcells P cx st a w pl Z S R hr1 (fun b hb => Sup.mono (fun m hm => List.mem_append_left _ hm) hb) xs ⟨by rw [hxl, hms.1, hseg], fun k av y hk hy => by
    rcases hms.2 k av hk with rfl | hk
    · exact True.intro
    have hkt : k < tn := by rw [← hxl]; exact (List.getElem?_eq_some_iff.1 hy).1
    rw [hxg k hkt] at hy
    exact hrr (off + k) av y (hsegg k av hk) (by rw [← Nat.add_assoc]; exact hy)⟩
  have hins : InsR P w S (some i) ((.io 0 0, .agg cs) :: ins) (x0 :: xr) (fs1.flatten ++ ds2.flatMap pl.own) := by
    rw [hx0]
    refine .cons (.io rfl ⟨rfl, cc, ty, fs1, hcc, ?_, f1, rfl, fun k av g hk hg => ?_⟩) hrest
    · show (pl.adr n).2 + off + cs.length ≤ cc.size
      omega
    · have hkt : k < tn := by rw [← hctn]; exact (List.getElem?_eq_some_iff.1 hk).1
      have hkx : k < xs.length := by rw [hxl]; exact hkt
      exact (f3 k av _ g hk (List.getElem?_eq_getElem hkx) hg).imp_right fun h => ⟨xs[k], by show cc[(pl.adr n).2 + off + k]? = _; rw [← hxg k hkt]; exact List.getElem?_eq_getElem hkx, h⟩
  have hfinE : fs1.flatten ++ ds2.flatMap pl.own = fin := by rw [f2]; simp only [fin, ds, List.flatMap_append]
  rw [hfinE] at hins
  have hfinb : ∀ b ∈ fin, b < w.heap.size ∧ ¬ S b ∧ b ≠ (pl.adr n).1 ∧ ∀ j, cx.io = some j → b ≠ j.b := by
    intro b hb
    obtain ⟨m, hm, hb⟩ := List.mem_flatMap.1 hb
    obtain ⟨h1, h2, h3⟩ := R.lt m (hdh m hm) b hb
    refine ⟨h1, ?_, fun e => R.dj m n (hdh m hm) hn (hdn m hm) b hb (e ▸ hbn), fun j hj e => ?_⟩
    · rintro (h | ⟨q, hq, h⟩)
      · exact h2 h
      · exact R.dj m q (hdh m hm) (hLh q hq) (fun e => (hLd q hq).2 (e ▸ hm)) b hb h
    · obtain ⟨t, rows, p, hl⟩ := hdarr m hm; exact R.ioa j hj m t rows p hl (e ▸ hb)
  have hSb : ∀ b, S b → b < w.heap.size ∧ b ≠ (pl.adr n).1 := by
    rintro b (h | ⟨q, hq, h⟩)
    · exact ⟨(R.zlt b h).1, fun e => hbZ (e ▸ h)⟩
    · exact ⟨(R.lt q (hLh q hq) b h).1, fun e => R.dj q n (hLh q hq) hn (hLd q hq).1 b h (e ▸ hbn)⟩
  have hcalls := hsem.2 w S (some i) _ fin (R.gl.mono (fun b h => .inl h) fun _ _ => rfl) hins (.inr ⟨0, 0, _, List.mem_cons_self ..⟩) (own_nodup R hdsn hdh)
    (fun b hb => ⟨(hfinb b hb).1, (hfinb b hb).2.1, fun j hj => by cases hj; exact (hfinb b hb).2.2.1⟩) (fun b hb => ⟨(hSb b hb).1, fun j hj => by cases hj; exact (hSb b hb).2⟩)
  unfold Oper.wp
  rw [hrun, Oper.upon_enter]
  rw [← hxx, Array.toArray_toList] at hcalls
  refine hcalls.mono ?_
  rintro e w' ⟨v, rfl, Z2, ff1, g, hF, hZ, hZ2, hres, hout, hnd, hblk⟩
  have hIo : IoR P w' Z2 i bs g := outsR_io hout
  obtain ⟨c', ty', xs', fs', q1, q2, q3, q4, rfl, q6, q7, q8⟩ := ioAll' hIo
  have hbsl : bs.length = tn := by have := congrArg List.length q3; simp only [i, List.length_map] at this; omega
  have hbsn : ∀ (k : Nat) (b : AV), bs[k]? = some b → seg[k]? = none ∨ ∃ c : AV, seg[k]? = some c ∧ (b.isNa = false → c.isNa = false) := fun k b hb => by
    cases hs : seg[k]? with
    | none => exact .inl rfl
    | some c =>
      refine .inr ⟨c, rfl, fun hbn => ?_⟩
      have hkt : k < tn := by rw [← hseg]; exact (List.getElem?_eq_some_iff.1 hs).1
      have hmk : k < mseg.length := by rw [hms.1, hseg]; exact hkt
      have e1 : i.m[k]? = some true := by rw [q3, List.getElem?_map, hb]; simp [hbn]
      have e2 : (cs.map AV.isNa)[k]? = some false := by
        simp only [i, List.getElem?_map] at e1 ⊢
        cases hck : cs[k]? with
        | none => rw [hck] at e1; cases e1
        | some z => rw [hck] at e1; simpa using e1
      rw [hpat, List.getElem?_map, List.getElem?_eq_getElem hmk] at e2
      simp only [Option.map_some, Option.some.injEq] at e2
      rcases hms.2 k _ (List.getElem?_eq_getElem hmk) with h | h
      · rw [h] at e2; cases e2
      · rw [hs] at h; cases h; exact e2
  have hbsm : ∀ (k : Nat) (b : AV), bs[k]? = some b → i.m[k]? = some (!b.isNa) := fun k b hb => by rw [q3, List.getElem?_map, hb]; rfl
  have hum := unmask_get bs seg (fresh true L (uid * 64 + 32) (bs.map naP)).1 (by rw [hbsl, hseg]) (by rw [fresh_len, List.length_map, hbsl, hseg])
  obtain ⟨hn1, hn2, hn3⟩ := List.nodup_append.1 hnd
  let pk : Pk := ⟨rt, (n, .box row) :: (ro1 ++ ro2), (freshV kp L (uid * 64) res).1, (n, .box (splice row off (unmask bs seg (fresh true L (uid * 64 + 32) (bs.map naP)).1))) :: ((fresh true L (uid * 64 + 32) (bs.map naP)).2 ++ (freshV kp L (uid * 64) res).2), ds2.reverse ++ ds1.reverse⟩
  have hu0 := okPk_uniq hok
  have huq : uniqN (names (freshV kp L (uid * 64) res).2) = true ∧ uniqN (names pk.put) = true := by
    refine ⟨?_, hu0⟩
    have key : ∀ {l l' : List Nat}, uniqN (l ++ l') = true → uniqN l' = true := by
      intro l l' h
      induction l with
      | nil => exact h
      | cons x l ih =>
        simp only [List.cons_append, uniqN] at h
        cases hm : memN x (l ++ l') <;> rw [hm] at h
        · exact ih h
        · cases h
    have h1 : names pk.put = (n :: names (fresh true L (uid * 64 + 32) (bs.map naP)).2) ++ names (freshV kp L (uid * 64) res).2 := by simp [pk, names]
    exact key (h1 ▸ hu0)
  have q6' : xs'.length = (bs.map naP).length := by rw [List.length_map]; exact q6
  have q4' : fs'.length = (bs.map naP).length := by rw [List.length_map]; exact q4
  have hmapq := fplc_map (kp := true) (lent := L) (n := uid * 64 + 32) (cs := bs.map naP) (xs := xs') (fs := fs') q6' q4'
  have hnq : ∀ p ∈ fplc true (uid * 64 + 32) (bs.map naP) xs' fs', p.n / 64 = uid := fun p hp => namesIn_spec hin1 (p.n, p.o) (by rw [← hmapq]; exact List.mem_map.2 ⟨p, hp, rfl⟩)
  have hnr : ∀ p ∈ (freshV kp L (uid * 64) res).2, p.1 / 64 = uid := namesIn_spec hin2
  have PQ := cells_places (P := P) (w' := w') (Z2 := Z2) (lent := L) (us := uid :: st.u) (kp := true) (n := uid * 64 + 32) q6' q4' hn2 q8 hkb hlu (fun p hp => mem_u (hnq p hp))
  obtain ⟨psR, ffR, hmr, PR⟩ := res_places (us := uid :: st.u) hres hn1 hkp hlu (fun p hp => mem_u (hnr p hp)) huq.1
  generalize hpsQ : fplc true (uid * 64 + 32) (bs.map naP) xs' fs' = psQ at *
  let bx : Plc := ⟨n, .box (splice row off (unmask bs seg (fresh true L (uid * 64 + 32) (bs.map naP)).1)), pl.hdr n, pl.adr n, [(pl.adr n).1]⟩
  let ps : List Plc := bx :: (psQ ++ psR)
  have hput : pk.put = ps.map fun p => (p.n, p.o) := by
    show _ = (bx :: (psQ ++ psR)).map _
    rw [List.map_cons, List.map_append, hmapq, ← hmr]
  have hufr : memN uid st.u = false := okPk_fresh hok (List.cons_ne_nil _ _)
  have hnew : ∀ p ∈ psQ ++ psR, p.n / 64 = uid ∧ lk st.s p.n = none := fun p hp => by
    have : p.n / 64 = uid := by
      rcases List.mem_append.1 hp with h | h
      · exact hnq p h
      · exact hnr (p.n, p.o) (by rw [hmr]; exact List.mem_map.2 ⟨p, h, rfl⟩)
    exact ⟨this, fresh_none R hufr this⟩
  have hW : ∀ b, (b ∈ fin ∨ ∃ j, some i = some j ∧ b = j.b) → Wr st pl pk b := by
    rintro b (hb | ⟨j, hj, hb⟩)
    · obtain ⟨m, hm, hb⟩ := List.mem_flatMap.1 hb
      exact ⟨m, .inr (by simp only [pk, List.mem_append, List.mem_reverse]; exact (List.mem_append.1 hm).symm), hdh m hm, hb⟩
    · cases hj
      exact ⟨n, .inl (by simp [pk, names]), hn, by rw [hb]; exact hbn⟩
  have hfall : ∀ b ∈ ff1 ++ fs'.flatten, (b ∈ fin ∨ w.heap.size ≤ b) ∧ b < w'.heap.size ∧ ¬ Z2 b := fun b hb => by obtain ⟨h1, h2, h3, _⟩ := hblk b hb; exact ⟨h1, h2, h3⟩
  have hfnb : ∀ b ∈ ff1 ++ fs'.flatten, b ≠ (pl.adr n).1 := fun b hb e => (hblk b hb).2.2.2 i rfl e
  have hfnj : ∀ b ∈ ff1 ++ fs'.flatten, ∀ j, cx.io = some j → b ≠ j.b := fun b hb j hj e => by
    rcases (hfall b hb).1 with h | h
    · exact (hfinb b h).2.2.2 j hj e
    · have := io_lt R hj; omega
  have hsubQ : ∀ p ∈ psQ, ∀ b ∈ p.f, b ∈ fs'.flatten := fun p hp b hb => ((PQ.nd p hp).2 b hb).1
  have hsubR : ∀ p ∈ psR, ∀ b ∈ p.f, b ∈ ff1 := fun p hp b hb => ((PR.nd p hp).2 b hb).1
  have hdQR : ∀ b ∈ ff1, b ∉ fs'.flatten := fun b h1 h2 => hn3 b h1 b h2 rfl
  obtain ⟨d, d', ty0, k1, k2, k3, k4⟩ := hF.iob i rfl
  have hcd : d = cc := by
    have : some (Obj.cells d ty0 (0, 0)) = some (Obj.cells cc ty (0, 0)) := k1.symm.trans hcc
    simp only [Option.some.injEq, Obj.cells.injEq, and_true] at this; exact this.1
  subst hcd
  have hdc : d' = c' := by
    have : some (Obj.cells d' ty0 (0, 0)) = some (Obj.cells c' ty' (0, 0)) := k2.symm.trans q1
    simp only [Option.some.injEq, Obj.cells.injEq, and_true] at this; exact this.1
  subst hdc
  have hul : (unmask bs seg (fresh true L (uid * 64 + 32) (bs.map naP)).1).length = tn := by rw [hum.1, hseg]
  have hspl : (splice row off (unmask bs seg (fresh true L (uid * 64 + 32) (bs.map naP)).1)).length = row.length := splice_len (by rw [hul]; exact hle)
  have hspg : ∀ k, (splice row off (unmask bs seg (fresh true L (uid * 64 + 32) (bs.map naP)).1))[k]? = if off ≤ k ∧ k < off + tn ∧ (∃ b : AV, bs[k - off]? = some b ∧ b.isNa = false) then (fresh true L (uid * 64 + 32) (bs.map naP)).1[k - off]? else row[k]? := fun k => by
    rw [splice_at (by rw [hul]; exact hle), hul]
    split
    · rename_i hk
      have hkb : k - off < bs.length := by omega
      have := hum.2 (k - off) _ (List.getElem?_eq_getElem hkb)
      rw [this]
      cases hbn : bs[k - off].isNa with
      | true =>
        rw [if_neg (fun h => by obtain ⟨_, _, b, h1, h2⟩ := h; rw [List.getElem?_eq_getElem hkb] at h1; cases h1; rw [hbn] at h2; cases h2)]
        have hks : k - off < seg.length := by omega
        have := hsegg _ _ (List.getElem?_eq_getElem hks)
        rw [show off + (k - off) = k by omega] at this
        rw [this]; exact List.getElem?_eq_getElem hks
      | false => rw [if_pos ⟨hk.1, hk.2, _, List.getElem?_eq_getElem hkb, hbn⟩]; rfl
    · rename_i hk
      rw [if_neg (fun h => hk ⟨h.1, h.2.1⟩)]
  have hold : ∀ p ∈ ps, ∀ o, lk st.s p.n = some o → o.like p.o ∧ p.h = pl.hdr p.n ∧ p.ad = pl.adr p.n := fun p hp o hl => by
    rcases List.mem_cons.1 hp with rfl | hp
    · have : o = .box row := Option.some.inj (hl.symm.trans hob)
      subst this; exact ⟨trivial, rfl, rfl⟩
    · rw [(hnew p hp).2] at hl; cases hl
  have chg : Chg w w' (Wr st pl pk) := ⟨hF.os, hF.tape, hF.output, hF.size, fun k hk hnk => hF.blk k hk (fun h => hnk (hW k (.inl h))) fun j hj e => hnk (hW k (.inr ⟨j, hj, e⟩))⟩
  refine hK _ _ _ _ (callio_step R (pk := pk) (ps := ps) (lent := L) (fin := fin) (cio := some i) (ff := ffR) (f := ff1 ++ fs'.flatten) hok hput (fun m hm => ⟨hLh m hm, fun p hp e => ?_⟩) hold hW (fun b hb => (hfinb b hb).2.2.2) (fun j hj i' hi' hb k hk => ?_) hF hZ (fun b hb => ⟨(hZ2 b hb).1, (hZ2 b hb).2.1⟩) hfall (fun b hb => List.mem_append_left _ (PR.sub b hb)) (fun p hp => ?_) (fun p hp q hq hne b hb => ?_) (fun j hj p hp row' hr had => ?_) (fun j hj p hp _ hbi => ?_) (fun hsup hh p hp => ?_) (fun hsup hh => ?_))
  · rcases List.mem_cons.1 hp with rfl | hp
    · exact (hLd m hm).1 e.symm
    · have h1 := (hnew p hp).2
      have h2 := hLh m hm
      unfold St.has St.O at h2
      rw [← e, h1] at h2; cases h2
  · cases hi'
    obtain ⟨h1, h2⟩ := R.io j hj n row hob hb.symm
    obtain ⟨h3, h4⟩ := hk
    simp only [i] at h3 h4
    refine ⟨by omega, ?_⟩
    rw [← h2, ← h1, List.getElem?_map]
    have hkl : k - ((pl.adr n).2 + off) < tn := by
      have := (List.getElem?_eq_some_iff.1 h4).1
      simp only [List.length_map] at this
      omega
    have hk2 : k - (pl.adr n).2 = off + (k - ((pl.adr n).2 + off)) := by omega
    have hk3 : k - ((pl.adr n).2 + off) < seg.length := by rw [hseg]; exact hkl
    have hk4 : k - ((pl.adr n).2 + off) < bs.length := by rw [hbsl]; exact hkl
    rw [hk2, hsegg _ _ (List.getElem?_eq_getElem hk3)]
    have h5 := hbsm _ _ (List.getElem?_eq_getElem hk4)
    simp only [i] at h5
    rw [h4] at h5
    rcases hbsn _ _ (List.getElem?_eq_getElem hk4) with h | ⟨c, h6, h7⟩
    · rw [List.getElem?_eq_getElem hk3] at h; cases h
    · rw [List.getElem?_eq_getElem hk3] at h6; cases h6
      simp only [Option.map_some, h7 (by simpa using h5.symm), Bool.not_false]
  · rcases List.mem_cons.1 hp with rfl | hp
    · refine ⟨by simp [bx], fun b hb => ?_⟩
      have hb : b = (pl.adr n).1 := List.mem_singleton.1 hb
      subst hb
      exact ⟨fun h => hfnb _ (List.mem_append_left _ (PR.sub _ h)) rfl, .inr ⟨hW _ (.inr ⟨i, rfl, rfl⟩), Nat.lt_of_lt_of_le hbl hF.size, fun h => (hZ2 _ h).2.2 i rfl rfl, hbZ⟩⟩
    · rcases List.mem_append.1 hp with hp | hp
      · exact ⟨(PQ.nd p hp).1, fun b hb => ⟨fun h => hdQR b (PR.sub b h) (hsubQ p hp b hb), .inl (List.mem_append_right _ (hsubQ p hp b hb))⟩⟩
      · exact ⟨(PR.nd p hp).1, fun b hb => ⟨((PR.nd p hp).2 b hb).2, .inl (List.mem_append_left _ (hsubR p hp b hb))⟩⟩
  · have hnb : ∀ q ∈ psQ ++ psR, ∀ b ∈ q.f, b ≠ (pl.adr n).1 := fun q hq b hb => hfnb b (by
      rcases List.mem_append.1 hq with h | h
      · exact List.mem_append_right _ (hsubQ q h b hb)
      · exact List.mem_append_left _ (hsubR q h b hb))
    rcases List.mem_cons.1 hp with rfl | hp <;> rcases List.mem_cons.1 hq with rfl | hq
    · exact absurd rfl hne
    · rw [List.mem_singleton.1 hb]
      exact fun h => hnb q hq _ h rfl
    · exact fun h => hnb p hp b hb (List.mem_singleton.1 h)
    · rcases List.mem_append.1 hp with hp | hp <;> rcases List.mem_append.1 hq with hq | hq
      · exact PQ.dj p hp q hq hne b hb
      · exact fun h => hdQR b (hsubR q hq b h) (hsubQ p hp b hb)
      · exact fun h => hdQR b (hsubR p hp b hb) (hsubQ q hq b h)
      · exact PR.dj p hp q hq hne b hb
  · rcases List.mem_cons.1 hp with rfl | hp
    · simp only [bx, Ob.box.injEq] at hr
      subst hr
      obtain ⟨h1, h2⟩ := R.io j hj n row hob had
      refine ⟨h1, ?_⟩
      rw [← h2]
      apply List.ext_getElem?
      intro k
      rw [List.getElem?_map, List.getElem?_map, hspg]
      split
      · rename_i hk
        obtain ⟨hk, hk', b, hb1, hb2⟩ := hk
        have hk1 : k - off < (fresh true L (uid * 64 + 32) (bs.map naP)).1.length := by rw [fresh_len, List.length_map, hbsl]; omega
        have hk2 : k - off < seg.length := by rw [hseg]; omega
        have := hsegg _ _ (List.getElem?_eq_getElem hk2)
        rw [show off + (k - off) = k by omega] at this
        rw [this, List.getElem?_eq_getElem hk1]
        rcases hbsn _ _ hb1 with h | ⟨c, h6, h7⟩
        · rw [List.getElem?_eq_getElem hk2] at h; cases h
        · rw [List.getElem?_eq_getElem hk2] at h6; cases h6
          simp only [Option.map_some, fresh_na _ (List.getElem_mem hk1), h7 hb2]
      · rfl
    · exfalso
      rcases List.mem_append.1 hp with hp | hp
      · exact hfnj _ (List.mem_append_right _ (hsubQ p hp _ (PQ.box p hp row' hr))) j hj had
      · exact hfnj _ (List.mem_append_left _ (hsubR p hp _ (PR.box p hp row' hr))) j hj had
  · rcases List.mem_cons.1 hp with rfl | hp
    · rename_i hx
      obtain ⟨t, rows, q, e⟩ := hx
      cases e
    · rcases List.mem_append.1 hp with hp | hp
      · exact hfnj _ (List.mem_append_right _ (hsubQ p hp _ hbi)) j hj rfl
      · exact hfnj _ (List.mem_append_left _ (hsubR p hp _ hbi)) j hj rfl
  · obtain ⟨hh0, hh1⟩ : Held (apply st o.dst uid pk) (over pl ps) [bx] ∧ Held (apply st o.dst uid pk) (over pl ps) (psQ ++ psR) := ⟨fun p hp => hh p (by rw [List.mem_singleton.1 hp]; exact List.mem_cons_self ..), fun p hp => hh p (List.mem_cons_of_mem _ hp)⟩
    obtain ⟨hhQ, hhR⟩ := Held.append.1 hh1
    obtain ⟨v1, v2, v3⟩ := PQ.rd _ _ _ hsup (fun b hb => by cases hb) hhQ
    rcases List.mem_cons.1 hp with rfl | hp
    · obtain ⟨o1, o2, o3, o4⟩ := hh0 bx (List.mem_singleton.2 rfl)
      have N := stays R (dst := o.dst) hok hput chg hold (Z' := ZNew Z Z2 fin ffR w.heap.size) (fun b h => .inl h)
      have hks : ∀ m ∈ olds st pk.put ++ pk.del, m ∈ n :: (ds2.reverse ++ ds1.reverse) := fun m hm => by
        rcases List.mem_append.1 hm with h | h
        · obtain ⟨h1, h2⟩ := olds_mem.1 h
          rw [hput, names_map] at h1
          obtain ⟨p, hp, rfl⟩ := List.mem_map.1 h1
          rcases List.mem_cons.1 hp with rfl | hp
          · exact List.mem_cons_self ..
          · unfold St.has St.O at h2; rw [(hnew p hp).2] at h2; cases h2
        · exact List.mem_cons_of_mem _ h
      have hru := (R.us n _ hob).2
      refine ⟨⟨by rw [o3, o4], d', ty', by rw [o3]; exact q1, by rw [o3]; simp only [bx]; rw [hspl, k3]; exact hsz, fun k av y hk hy => ?_⟩, List.all_eq_true.2 fun av hav => ?_⟩
      · rw [o3] at hy
        simp only [bx] at hk hy
        rw [hspg] at hk
        split at hk
        · rename_i hin
          obtain ⟨hin1, hin2, b, hb1, hb2⟩ := hin
          refine v2.2 (k - off) av y hk ?_
          rw [q7 _ _ hb1 hb2]
          rw [show i.o + (k - off) = (pl.adr n).2 + k by simp only [i]; omega]
          exact hy
        · rename_i hin
          rw [k4 _ (fun hcan => by
            have h2 := hcan.2
            have h3 := (List.getElem?_eq_some_iff.1 h2).1
            have h1 := hcan.1
            simp only [i, List.length_map] at h1 h3
            have h4 : (pl.adr n).2 + k - i.o = k - off := by simp only [i]; omega
            rw [h4] at h2
            have h5 : k - off < bs.length := by omega
            have h6 := hbsm _ _ (List.getElem?_eq_getElem h5)
            rw [h2] at h6
            exact hin ⟨by omega, by omega, _, List.getElem?_eq_getElem h5, by simpa using h6.symm⟩)] at hy
          have h0 := hrr k av y hk hy
          have := Ar.drop N (List.all_eq_true.1 hru av (List.mem_of_getElem? hk)) h0
          rw [keepsL_drop (hkeep av (List.mem_of_getElem? (by rw [hspg, if_neg hin]; exact hk))) hks] at this
          exact this
      · obtain ⟨k, hk, rfl⟩ := List.mem_iff_getElem.1 hav
        have hk' := List.getElem?_eq_getElem hk
        have hk2 := hspg k
        have hk' : (splice row off (unmask bs seg (fresh true L (uid * 64 + 32) (bs.map naP)).1))[k]? = _ := hk'
        rw [hk'] at hk2
        split at hk2
        · exact List.all_eq_true.1 v3 _ (List.mem_of_getElem? hk2.symm)
        · exact AV.inU_mono (fun _ h => memN_cons h) (List.all_eq_true.1 hru _ (List.mem_of_getElem? hk2.symm))
    · rcases List.mem_append.1 hp with hp | hp
      · exact v1 p hp
      · exact (PR.rd _ _ _ hsup (fun b hb => .inr (.inr hb)) hhR).1 p hp
  · have hhR : Held (apply st o.dst uid pk) (over pl ps) psR := fun p hp => hh p (List.mem_cons_of_mem _ (List.mem_append_right _ hp))
    exact (PR.rd _ _ _ hsup (fun b hb => .inr (.inr hb)) hhR).2
end
end Go.AM
end
section
namespace Go.AM
open Go
set_option linter.unusedVariables false
theorem arrBack_spec {lent : List Nat} : ∀ {bs : List AV} {k : Prop}, arrBack lent bs k → k ∧ ∀ b ∈ bs, (∃ v, b = .prim v) ∨ (∃ t rows, b = .sl t rows ∧ (lent ≠ [] → allPrim rows)) ∨ (∃ t rows, b = .fr [] t rows ∧ lent = [])
  | [], k, h => ⟨h, by simp⟩
  | b :: r, k, h => by
    have tl : arrBack lent r k → ((∃ v, b = .prim v) ∨ (∃ t rows, b = .sl t rows ∧ (lent ≠ [] → allPrim rows)) ∨ (∃ t rows, b = .fr [] t rows ∧ lent = [])) → k ∧ ∀ b' ∈ b :: r, (∃ v, b' = .prim v) ∨ (∃ t rows, b' = .sl t rows ∧ (lent ≠ [] → allPrim rows)) ∨ (∃ t rows, b' = .fr [] t rows ∧ lent = []) := fun h hb => by
      obtain ⟨h1, h2⟩ := arrBack_spec h
      refine ⟨h1, fun b' hm => ?_⟩
      rcases List.mem_cons.1 hm with rfl | hm
      · exact hb
      · exact h2 b' hm
    cases b with
    | prim v => simp only [arrBack] at h; exact tl h (.inl ⟨v, rfl⟩)
    | sl t rows =>
      simp only [arrBack] at h
      split at h
      · exact tl h (.inr (.inl ⟨t, rows, rfl, fun h => absurd rfl h⟩))
      · exact tl h.2 (.inr (.inl ⟨t, rows, rfl, fun _ => h.1⟩))
    | fr ns t rows =>
      cases ns with
      | nil =>
        simp only [arrBack] at h
        split at h
        · exact tl h (.inr (.inr ⟨t, rows, rfl, rfl⟩))
        · exact h.elim
      | cons m ms => simp only [arrBack] at h
    | _ => simp only [arrBack] at h
theorem arrC_na {c : AV} (h : arrC c = true) : c.isNa = false := by cases c <;> first | rfl | cases h
section
variable {P : Program} {o : Oper} {uid : Nat}
theorem good_callA {c : Call} {fo : Operand} {f : Nat} (ho : o.op = .call c) (hc : c.callee = .value fo) {rt : List (Nat × TV)} {r : List TV} {n i off te : Nat} {p : Bool} {rows : List (List AV)} {row : List AV}
    (hargs : ∀ (cx : Cx) (st : St) (a : Act) (w : World) (pl : Pl) (Z : Nat → Prop), Rel P cx st a w pl Z → RdT rt st → ∃ capsV : Array Value, a.eval fo = .func (.func f) #[] capsV ∧ (c.args.map a.eval ++ capsV).toList.length = (TV.one (.ptr n i off) :: r).length ∧
      ∀ (j : Nat) (v : TV) (x : Value), (TV.one (.ptr n i off) :: r)[j]? = some v → (c.args.map a.eval ++ capsV).toList[j]? = some x → Tr P st pl Z w v x)
    {tn : Nat} (hrow : rows[i]? = some row) (hle : off + tn ≤ row.length) (hsC : allB arrC (takeC tn (dropC off row)) = true) {st0 : St}
    {ins : List (Mode × TV)} {lent ds2 : List Nat} {ro2 : List (Nat × Ob)} (hg : GathOk st0 r [] ins lent ro2 ds2) (hdis : ∀ m ∈ n :: ds2.reverse, m ∉ lent) {bs : List AV} {res : TV}
    (hsem : Sem P f ((.io 0 0, .agg (takeC tn (dropC off row))) :: ins) [.agg bs] res) {kp : Bool} (hkb : arrBack lent bs True) (hkp : keptV kp lent res True)
    (hin2 : namesIn uid (freshV kp lent (uid * 64) res).2 = true) :
    Good P o uid ⟨rt, (n, .arr te rows p) :: ro2, (freshV kp lent (uid * 64) res).1, (n, .arr te (rows.set i (splice row off bs)) p) :: (freshV kp lent (uid * 64) res).2, ds2.reverse⟩ := by
  intro cx st a w pl Z R ht hro hok K Q hK
  obtain ⟨capsV, e1, e2, e3⟩ := hargs cx st a w pl Z R ht
  have hob := (RdO.cons.1 hro).1
  have hr2 := (RdO.cons.1 hro).2
  obtain ⟨_, g2, g3, _, g5, g6⟩ := hg
  have hrun := run_callFn (w := w) ho hc e1 hsem.1
  have hn : st.has n := by unfold St.has St.O; rw [hob]; rfl
  have hne : rows ≠ [] := by intro e; subst e; simp at hrow
  obtain ⟨g, cap, cur, cells, fs, hh, hgg, hcap, hmx, hsz, htake, hw, hcln, hfl, hr, hown⟩ := arr_mem R hob hne
  have hseg : (takeC tn (dropC off row)).length = tn := by rw [takeC_eq, dropC_eq]; simp; omega
  have hsC' : ∀ c ∈ takeC tn (dropC off row), arrC c = true := allB_iff.1 hsC
  have hsegg : ∀ k av, (takeC tn (dropC off row))[k]? = some av → row[off + k]? = some av ∧ k < tn := fun k av hk => by
    rw [takeC_eq, dropC_eq, List.getElem?_take] at hk
    split at hk
    · rename_i h; rw [List.getElem?_drop] at hk; exact ⟨hk, h⟩
    · cases hk
  generalize hsegE : takeC tn (dropC off row) = seg at *
  have hil : i < rows.length := (List.getElem?_eq_some_iff.1 hrow).1
  have hrl := row_len hw hrow
  have hbd : i * P.cellsOf te + P.cellsOf te ≤ rows.length * P.cellsOf te := by
    have : (i + 1) * P.cellsOf te ≤ rows.length * P.cellsOf te := Nat.mul_le_mul_right _ hil
    rw [Nat.succ_mul] at this; exact this
  have hcm : rows.length * P.cellsOf te ≤ cur.size := by rw [hsz]; exact Nat.mul_le_mul_right _ hcap
  generalize hpos : i * P.cellsOf te + off = pos at *
  have hpn : pos + tn ≤ rows.length * P.cellsOf te := by omega
  have hgown : g ∈ pl.own n := by rw [hown]; simp
  obtain ⟨hgl, hgZ, hgm⟩ := R.lt n hn g hgown
  have hnd0 : (g :: fs.flatten).Nodup := hown ▸ R.nd n hn
  have hgf : g ∉ fs.flatten := (List.nodup_cons.1 hnd0).1
  have hfsn : fs.flatten.Nodup := (List.nodup_cons.1 hnd0).2
  let fm : List (List Nat) := (fs.drop pos).take tn
  have hfml : fm.length = tn := by simp [fm]; omega
  have hfmg : ∀ k, k < tn → fm[k]? = fs[pos + k]? := fun k hk => by simp only [fm]; rw [List.getElem?_take, if_pos hk, List.getElem?_drop]
  have hparts : fs.flatten = (fs.take pos).flatten ++ (fm.flatten ++ (fs.drop (pos + tn)).flatten) := by
    conv => lhs; rw [← List.take_append_drop pos fs, List.flatten_append, ← List.take_append_drop tn (fs.drop pos), List.flatten_append, List.drop_drop]
  have hrest : List.Sublist ((fs.take pos).flatten ++ (fs.drop (pos + tn)).flatten) fs.flatten := by
    rw [hparts]; exact List.Sublist.append (List.Sublist.refl _) (List.sublist_append_right _ _)
  have hfmsub : List.Sublist fm.flatten fs.flatten := by
    rw [hparts]; exact (List.sublist_append_left _ _).trans (List.sublist_append_right _ _)
  have hapart : ∀ b ∈ (fs.take pos).flatten ++ (fs.drop (pos + tn)).flatten, b ∉ fm.flatten := by
    intro b hb hb2
    rw [hparts] at hfsn
    obtain ⟨h1, h2, h3⟩ := List.nodup_append.1 hfsn
    obtain ⟨h4, h5, h6⟩ := List.nodup_append.1 h2
    rcases List.mem_append.1 hb with h | h
    · exact h3 b h b (List.mem_append_left _ hb2) rfl
    · exact h6 b hb2 b h rfl
  have hdel : n ∉ ds2 := fun h => ((okPk_spec hok).2 n (List.mem_reverse.2 h)).2 (by simp [names])
  have hdarr : ∀ m ∈ ds2, ∃ t rows p, lk st.s m = some (.arr t rows p) := fun m hm => by
    obtain ⟨t, rows, e⟩ := g5 m hm; exact ⟨t, rows, false, hr2.mem e⟩
  have hdh : ∀ m ∈ ds2, st.has m := fun m hm => by obtain ⟨t, r, p, h⟩ := hdarr m hm; unfold St.has St.O; rw [h]; rfl
  have hLh : ∀ m ∈ lent, st.has m := has_of hr2 g2
  have hLd : ∀ m ∈ lent, m ≠ n ∧ m ∉ ds2 := fun m hm => ⟨fun e => hdis n (List.mem_cons_self ..) (e ▸ hm), fun h => hdis m (List.mem_cons_of_mem _ (List.mem_reverse.2 h)) hm⟩
  have hlu : ∀ m ∈ lent, memN (m / 64) (uid :: st.u) = true := fun m hm => by
    obtain ⟨o, ho⟩ := g2 m hm
    exact memN_cons (R.us m o (hr2.mem ho)).1
  let S := Sup pl Z lent
  let fin := fm.flatten ++ ds2.flatMap pl.own
  let io : Io := ⟨g, pos, seg.map fun c => !c.isNa⟩
  have him : ∀ b ∈ io.m, b = true := fun b hb => by obtain ⟨c, hc, rfl⟩ := List.mem_map.1 hb; rw [arrC_na (hsC' c hc)]; rfl
  have hSn : ∀ b ∈ pl.own n, ¬ S b := by
    rintro b hb (h | ⟨q, hq, h⟩)
    · exact (R.lt n hn b hb).2.1 h
    · exact R.dj n q hn (hLh q hq) (fun e => (hLd q hq).1 e.symm) b hb h
  have hfinb : ∀ b ∈ fin, b < w.heap.size ∧ ¬ S b ∧ b ≠ g ∧ ∀ j, cx.io = some j → b ≠ j.b := by
    intro b hb
    rcases List.mem_append.1 hb with hb | hb
    · have hbo : b ∈ pl.own n := by rw [hown]; exact List.mem_cons_of_mem _ (hfmsub.subset hb)
      exact ⟨(R.lt n hn b hbo).1, hSn b hbo, fun e => hgf (e ▸ hfmsub.subset hb), fun j hj e => R.ioa j hj n te rows p hob (e ▸ hbo)⟩
    · obtain ⟨m, hm, hb⟩ := List.mem_flatMap.1 hb
      obtain ⟨h1, h2, h3⟩ := R.lt m (hdh m hm) b hb
      refine ⟨h1, ?_, fun e => R.dj m n (hdh m hm) hn (fun e => hdel (e ▸ hm)) b hb (e ▸ hgown), fun j hj e => ?_⟩
      · rintro (h | ⟨q, hq, h⟩)
        · exact h2 h
        · exact R.dj m q (hdh m hm) (hLh q hq) (fun e => (hLd q hq).2 (e ▸ hm)) b hb h
      · obtain ⟨t, r, p, hl⟩ := hdarr m hm; exact R.ioa j hj m t r p hl (e ▸ hb)
  have hfinn : fin.Nodup := List.nodup_append.2 ⟨hfmsub.nodup hfsn, own_nodup R g3 hdh, fun b hb c hc e => by
    subst e
    obtain ⟨m, hm, hc⟩ := List.mem_flatMap.1 hc
    exact R.dj n m hn (hdh m hm) (fun e => hdel (e ▸ hm)) b (by rw [hown]; exact List.mem_cons_of_mem _ (hfmsub.subset hb)) hc⟩
  have hSb : ∀ b, S b → b < w.heap.size ∧ b ≠ g := by
    rintro b hS
    refine ⟨?_, fun e => hSn g hgown (e ▸ hS)⟩
    rcases hS with h | ⟨q, hq, h⟩
    · exact (R.zlt b h).1
    · exact (R.lt q (hLh q hq) b h).1
  obtain ⟨x0, xr, hxx⟩ : ∃ x0 xr, (c.args.map a.eval ++ capsV).toList = x0 :: xr := by
    cases h : (c.args.map a.eval ++ capsV).toList with
    | nil => rw [h] at e2; simp at e2
    | cons x0 xr => exact ⟨x0, xr, rfl⟩
  rw [hxx] at e2 e3
  have hx0 : x0 = .pointer (some ⟨g, pos, none⟩) := by
    have := e3 0 _ x0 rfl rfl _ hob
    simpa [ptrAt, hh, Value.ownBlock, hpos] using this
  have hrestI := g6 P cx st a w pl Z S R hr2 (fun b hb => hb) (some io) xr (by simpa using e2) fun j v x hv hx => e3 (j + 1) v x (by simpa using hv) (by simpa using hx)
  have hcelk : ∀ k, k < rows.length * P.cellsOf te → cells[k]? = cur[k]? := fun k hk => by rw [← htake, List.getElem?_take, if_pos hk]; simp
  have hins : InsR P w S (some io) ((.io 0 0, .agg seg) :: ins) (x0 :: xr) fin := by
    rw [hx0]
    refine .cons (.io rfl ⟨rfl, cur, te, fm, hgg, ?_, by rw [hfml, hseg], rfl, fun k av gg hk hgk => .inr ?_⟩) hrestI
    · show pos + seg.length ≤ cur.size
      rw [hseg]; exact Nat.le_trans hpn hcm
    · obtain ⟨h1, hkt⟩ := hsegg k av hk
      have hflat := flat_get hw hrow h1
      rw [← Nat.add_assoc, hpos] at hflat
      have hkc : pos + k < cells.length := by omega
      rw [hfmg k hkt] at hgk
      exact ⟨cells[pos + k], by rw [← hcelk (pos + k) (by omega)]; exact List.getElem?_eq_getElem hkc, (hr _ av _ gg hflat (List.getElem?_eq_getElem hkc) hgk).mono (fun b hb => .inl hb) (fun _ _ => rfl) fun _ _ => rfl⟩
  have hcalls := hsem.2 w S (some io) _ fin (R.gl.mono (fun b h => .inl h) fun _ _ => rfl) hins (.inr ⟨0, 0, _, List.mem_cons_self ..⟩) hfinn
    (fun b hb => ⟨(hfinb b hb).1, (hfinb b hb).2.1, fun j hj => by cases hj; exact (hfinb b hb).2.2.1⟩) (fun b hb => ⟨(hSb b hb).1, fun j hj => by cases hj; exact (hSb b hb).2⟩)
  unfold Oper.wp
  rw [hrun, Oper.upon_enter]
  rw [← hxx, Array.toArray_toList] at hcalls
  refine hcalls.mono ?_
  rintro e w' ⟨v, rfl, Z2, ff1, gz, hF, hZ, hZ2, hres, hout, hnd, hblk⟩
  have hIo : IoR P w' Z2 io bs gz := outsR_io hout
  obtain ⟨c', ty', xs', fs', q1, q2, q3, q4, rfl, q6, q7, q8⟩ := ioAll hIo him
  have hbsl : bs.length = tn := by rw [q3]; simp only [io, List.length_map]; exact hseg
  obtain ⟨hn1, hn2, hn3⟩ := List.nodup_append.1 hnd
  let pk : Pk := ⟨rt, (n, .arr te rows p) :: ro2, (freshV kp lent (uid * 64) res).1, (n, .arr te (rows.set i (splice row off bs)) p) :: (freshV kp lent (uid * 64) res).2, ds2.reverse⟩
  have hu0 := okPk_uniq hok
  have huq : uniqN (names (freshV kp lent (uid * 64) res).2) = true := by
    have h1 : names pk.put = n :: names (freshV kp lent (uid * 64) res).2 := by simp [pk, names]
    have h2 : uniqN (n :: names (freshV kp lent (uid * 64) res).2) = true := h1 ▸ hu0
    simp only [uniqN] at h2
    cases hm : memN n (names (freshV kp lent (uid * 64) res).2) <;> rw [hm] at h2
    · exact h2
    · cases h2
  have hnr : ∀ p ∈ (freshV kp lent (uid * 64) res).2, p.1 / 64 = uid := namesIn_spec hin2
  obtain ⟨psR, ffR, hmr, PR⟩ := res_places (us := uid :: st.u) hres hn1 hkp hlu (fun p hp => mem_u (hnr p hp)) huq
  let fs2 : List (List Nat) := fs.take pos ++ fs' ++ fs.drop (pos + tn)
  have hf'l : fs'.length = tn := by rw [q4, hbsl]
  have hfget : ∀ k : Nat, fs2[k]? = if pos ≤ k ∧ k < pos + tn then fs'[k - pos]? else fs[k]? := by
    intro k
    have := put_get (l := fs) (d := fs') (p := pos) (k := k) (by rw [hf'l, hfl, hcln]; exact hpn)
    rw [hf'l] at this
    exact this
  have hfs2E : fs2.flatten = (fs.take pos).flatten ++ (fs'.flatten ++ (fs.drop (pos + tn)).flatten) := by simp [fs2, List.append_assoc]
  let ax : Plc := ⟨n, .arr te (rows.set i (splice row off bs)) p, pl.hdr n, pl.adr n, g :: fs2.flatten⟩
  let ps : List Plc := ax :: psR
  have hput : pk.put = ps.map fun p => (p.n, p.o) := by
    show _ = (ax :: psR).map _
    rw [List.map_cons, ← hmr]
  have hufr : memN uid st.u = false := okPk_fresh hok (List.cons_ne_nil _ _)
  have hnew : ∀ p ∈ psR, p.n / 64 = uid ∧ lk st.s p.n = none := fun p hp => by
    have : p.n / 64 = uid := hnr (p.n, p.o) (by rw [hmr]; exact List.mem_map.2 ⟨p, hp, rfl⟩)
    exact ⟨this, fresh_none R hufr this⟩
  have hWn : ∀ b ∈ pl.own n, Wr st pl pk b := fun b hb => ⟨n, .inl (by simp [pk, names]), hn, hb⟩
  have hW : ∀ b, (b ∈ fin ∨ ∃ j, some io = some j ∧ b = j.b) → Wr st pl pk b := by
    rintro b (hb | ⟨j, hj, hb⟩)
    · rcases List.mem_append.1 hb with hb | hb
      · exact hWn b (by rw [hown]; exact List.mem_cons_of_mem _ (hfmsub.subset hb))
      · obtain ⟨m, hm, hb⟩ := List.mem_flatMap.1 hb
        exact ⟨m, .inr (List.mem_reverse.2 hm), hdh m hm, hb⟩
    · cases hj
      exact hWn b (by rw [hb]; exact hgown)
  have hfall : ∀ b ∈ ff1 ++ fs'.flatten, (b ∈ fin ∨ w.heap.size ≤ b) ∧ b < w'.heap.size ∧ ¬ Z2 b := fun b hb => by obtain ⟨h1, h2, h3, _⟩ := hblk b hb; exact ⟨h1, h2, h3⟩
  have hfng : ∀ b ∈ ff1 ++ fs'.flatten, b ≠ g := fun b hb e => (hblk b hb).2.2.2 io rfl e
  have hfnj : ∀ b ∈ ff1 ++ fs'.flatten, ∀ j, cx.io = some j → b ≠ j.b := fun b hb j hj e => by
    rcases (hfall b hb).1 with h | h
    · exact (hfinb b h).2.2.2 j hj e
    · have := io_lt R hj; omega
  have hsubR : ∀ p ∈ psR, ∀ b ∈ p.f, b ∈ ff1 := fun p hp b hb => ((PR.nd p hp).2 b hb).1
  let keptB := (fs.take pos).flatten ++ (fs.drop (pos + tn)).flatten
  have hkept : ∀ b ∈ keptB, b ∈ pl.own n ∧ b ∉ fin ∧ b ≠ g ∧ b < w.heap.size := by
    intro b hb
    have hbo : b ∈ pl.own n := by rw [hown]; exact List.mem_cons_of_mem _ (hrest.subset hb)
    refine ⟨hbo, fun h => ?_, fun e => hgf (e ▸ hrest.subset hb), (R.lt n hn b hbo).1⟩
    rcases List.mem_append.1 h with h | h
    · exact hapart b hb h
    · obtain ⟨m, hm, h⟩ := List.mem_flatMap.1 h
      exact R.dj n m hn (hdh m hm) (fun e => hdel (e ▸ hm)) b hbo h
  have hkeptF : ∀ b ∈ keptB, b ∉ ff1 ++ fs'.flatten := fun b hb h => by
    rcases (hfall b h).1 with h | h
    · exact (hkept b hb).2.1 h
    · have := (hkept b hb).2.2.2; omega
  have hin2' : ∀ b ∈ fs2.flatten, b ∈ fs'.flatten ∨ b ∈ keptB := fun b hb => by
    rw [hfs2E] at hb
    rcases List.mem_append.1 hb with h | h
    · exact .inr (List.mem_append_left _ h)
    · rcases List.mem_append.1 h with h | h
      · exact .inl h
      · exact .inr (List.mem_append_right _ h)
  have hZ2n : ∀ b ∈ pl.own n, b ∉ fin → ¬ Z2 b := fun b hb hf h => by
    rcases (hZ2 b h).1 with h | h | h
    · exact hSn b hb h
    · exact hf h
    · have := (R.lt n hn b hb).1; omega
  have hgfin : g ∉ fin := fun h => (hfinb g h).2.2.1 rfl
  obtain ⟨d, d', ty0, k1, k2, k3, k4⟩ := hF.iob io rfl
  have hcd : d = cur ∧ ty0 = te := by
    have : some (Obj.cells d ty0 (0, 0)) = some (Obj.cells cur te (0, 0)) := k1.symm.trans hgg
    simp only [Option.some.injEq, Obj.cells.injEq, and_true] at this; exact this
  obtain ⟨rfl, rfl⟩ := hcd
  have hdc : d' = c' := by
    have : some (Obj.cells d' ty0 (0, 0)) = some (Obj.cells c' ty' (0, 0)) := k2.symm.trans q1
    simp only [Option.some.injEq, Obj.cells.injEq, and_true] at this; exact this.1
  subst hdc
  have hold : ∀ p ∈ ps, ∀ o, lk st.s p.n = some o → o.like p.o ∧ p.h = pl.hdr p.n ∧ p.ad = pl.adr p.n := fun q hq o hl => by
    rcases List.mem_cons.1 hq with rfl | hq
    · have : o = .arr ty0 rows p := Option.some.inj (hl.symm.trans hob)
      subst this; exact ⟨rfl, rfl, rfl⟩
    · rw [(hnew q hq).2] at hl; cases hl
  have hOw : ∀ Zn : Nat → Prop, (∀ b, Z b → Zn b) → (lent = [] → ∀ b, Z2 b → Zn b) → Ow P w' Zn (.sl ty0 (rows.set i (splice row off bs))) (pl.hdr n) (g :: fs2.flatten) := by
    intro Zn hzn hzl
    have h1 : w'.ownsRow 0 ty0 (P.cellsOf ty0) (pl.hdr n) (rows.set i (splice row off bs)).length (d'.toList.take (rows.length * P.cellsOf ty0)) := by
      rw [List.length_set, hh]
      exact ⟨by simp; omega, .inr ⟨g, cap, d', rfl, Nat.zero_le _, k2, hcap, hmx, by rw [k3, hsz], rfl⟩⟩
    have := Ow.sl (P := P) (Z := Zn) (fs := fs2) (by rw [List.length_set]; exact Ow.max (R.obj n _ hob)) (fun r hr => by
        rcases List.mem_or_eq_of_mem_set hr with h | h
        · exact hw r h
        · rw [h, splice_len (by omega)]; exact hrl) h1 (by simp [fs2, hf'l, hfl, hcln]; omega) fun k av y gk hk hy hgk => by
      rw [set_splice hw hrow (by omega), hpos, hbsl] at hk
      rw [hfget] at hgk
      rw [List.getElem?_take] at hy
      split at hy
      · rename_i hkl
        rw [Array.getElem?_toList] at hy
        split at hk
        · rename_i hin
          rw [if_pos hin] at hgk
          have hO := q8 (k - pos) av y gk hk (by rw [q7 _ (by omega)]; simp only [io]; rw [show pos + (k - pos) = k by omega]; exact hy) hgk
          rcases (arrBack_spec hkb).2 av (List.mem_of_getElem? hk) with ⟨u, rfl⟩ | ⟨t, rs, rfl, hp⟩ | ⟨t, rs, rfl, hl⟩
          · cases hO with
            | prim h => exact .prim h
          · by_cases hl : lent = []
            · exact hO.mono (hzl hl) (fun _ _ => rfl) (fun _ _ => rfl)
            · exact hO.primRows (hp hl)
          · exact hO.mono (hzl hl) (fun _ _ => rfl) (fun _ _ => rfl)
        · rename_i hin
          rw [if_neg hin] at hgk
          have hy' : cells[k]? = some y := by
            rw [hcelk k hkl, ← hy]
            exact (k4 k fun hcan => hin ⟨by have := hcan.1; simp only [io] at this; exact this, by
              have h2 := hcan.2
              have := (List.getElem?_eq_some_iff.1 h2).1
              simp only [io, List.length_map] at this
              have := hcan.1
              simp only [io] at this
              omega⟩).symm
          refine (hr _ av y gk hk hy' hgk).mono hzn (fun b hb => ?_) fun b hb => ?_
          · exact hF.blk b (R.zlt b hb).1 (fun h => (hfinb b h).2.1 (.inl hb)) fun j hj e => by cases hj; exact hgZ (by rw [← show b = g from e]; exact hb)
          · have hbk : b ∈ keptB := by
              by_cases hlt : k < pos
              · exact List.mem_append_left _ (List.mem_flatten.2 ⟨gk, List.mem_iff_getElem?.2 ⟨k, by rw [List.getElem?_take, if_pos hlt]; exact hgk⟩, hb⟩)
              · have : pos + tn ≤ k := by
                  apply Classical.byContradiction; intro h; exact hin ⟨by omega, by omega⟩
                exact List.mem_append_right _ (List.mem_flatten.2 ⟨gk, List.mem_iff_getElem?.2 ⟨k - (pos + tn), by rw [List.getElem?_drop, show pos + tn + (k - (pos + tn)) = k by omega]; exact hgk⟩, hb⟩)
            obtain ⟨_, z2, z3, z4⟩ := hkept b hbk
            exact hF.blk b z4 z2 fun j hj e => by cases hj; exact z3 e
      · cases hy
    have hob' : (pl.hdr n).ownBlock = some g := by rw [hh]; rfl
    rw [hob'] at this
    exact this
  have hndA : (g :: fs2.flatten).Nodup := by
    refine List.nodup_cons.2 ⟨fun h => (hin2' g h).elim (fun h => hfng g (List.mem_append_right _ h) rfl) fun h => (hkept g h).2.2.1 rfl, ?_⟩
    rw [hfs2E, (List.perm_append_comm_assoc _ _ _).nodup_iff]
    refine List.nodup_append.2 ⟨hn2, hrest.nodup hfsn, fun b hb c hc e => ?_⟩
    subst e
    exact hkeptF b hc (List.mem_append_right _ hb)
  refine hK _ _ _ _ (callio_step R (pk := pk) (ps := ps) (lent := lent) (fin := fin) (cio := some io) (ff := ffR) (f := ff1 ++ fs'.flatten) hok hput (fun m hm => ⟨hLh m hm, fun q hq e => ?_⟩) hold hW (fun b hb => (hfinb b hb).2.2.2) (fun j hj i' hi' hb k hk => ?_) hF hZ (fun b hb => ⟨(hZ2 b hb).1, (hZ2 b hb).2.1⟩) hfall (fun b hb => List.mem_append_left _ (PR.sub b hb)) (fun q hq => ?_) (fun q hq q' hq' hne' b hb => ?_) (fun j hj q hq row' hr' had => ?_) (fun j hj q hq _ hbi => ?_) (fun hsup hhd q hq => ?_) (fun hsup hhd => ?_))
  · rcases List.mem_cons.1 hq with rfl | hq
    · exact (hLd m hm).1 e.symm
    · have h1 := (hnew q hq).2
      have h2 := hLh m hm
      unfold St.has St.O at h2
      rw [← e, h1] at h2; cases h2
  · cases hi'
    exact absurd (by rw [hb]; exact hgown) (R.ioa j hj n ty0 rows p hob)
  · rcases List.mem_cons.1 hq with rfl | hq
    · refine ⟨hndA, fun b hb => ?_⟩
      rcases List.mem_cons.1 hb with rfl | hb
      · exact ⟨fun h => hfng _ (List.mem_append_left _ (PR.sub _ h)) rfl, .inr ⟨hWn _ hgown, Nat.lt_of_lt_of_le hgl hF.size, hZ2n _ hgown hgfin, hgZ⟩⟩
      · rcases hin2' b hb with hb | hb
        · exact ⟨fun h => hn3 b (PR.sub b h) b hb rfl, .inl (List.mem_append_right _ hb)⟩
        · obtain ⟨z1, z2, z3, z4⟩ := hkept b hb
          exact ⟨fun h => hkeptF b hb (List.mem_append_left _ (PR.sub b h)), .inr ⟨hWn b z1, Nat.lt_of_lt_of_le z4 hF.size, hZ2n b z1 z2, (R.lt n hn b z1).2.1⟩⟩
    · exact ⟨(PR.nd q hq).1, fun b hb => ⟨((PR.nd q hq).2 b hb).2, .inl (List.mem_append_left _ (hsubR q hq b hb))⟩⟩
  · have hnb : ∀ q ∈ psR, ∀ b ∈ q.f, b ∉ g :: fs2.flatten := fun q hq b hb h => by
      have h1 := hsubR q hq b hb
      rcases List.mem_cons.1 h with rfl | h
      · exact hfng _ (List.mem_append_left _ h1) rfl
      · rcases hin2' b h with h | h
        · exact hn3 b h1 b h rfl
        · exact hkeptF b h (List.mem_append_left _ h1)
    rcases List.mem_cons.1 hq with rfl | hq <;> rcases List.mem_cons.1 hq' with rfl | hq'
    · exact absurd rfl hne'
    · exact fun h => hnb q' hq' b h hb
    · exact hnb q hq b hb
    · exact PR.dj q hq q' hq' hne' b hb
  · rcases List.mem_cons.1 hq with rfl | hq
    · cases hr'
    · exact absurd had (hfnj _ (List.mem_append_left _ (hsubR q hq _ (PR.box q hq row' hr'))) j hj)
  · rcases List.mem_cons.1 hq with rfl | hq
    · rcases List.mem_cons.1 hbi with h | h
      · exact R.ioa j hj n ty0 rows p hob (by rw [h]; exact hgown)
      · rcases hin2' _ h with h | h
        · exact hfnj _ (List.mem_append_right _ h) j hj rfl
        · exact R.ioa j hj n ty0 rows p hob (hkept _ h).1
    · exact hfnj _ (List.mem_append_left _ (hsubR q hq _ hbi)) j hj rfl
  · rcases List.mem_cons.1 hq with rfl | hq
    · obtain ⟨o1, o2, o3, o4⟩ := hhd ax (List.mem_cons_self ..)
      refine ⟨?_, rfl⟩
      show Ow P w' _ (.sl ty0 (rows.set i (splice row off bs))) _ _
      rw [o2, o4]
      exact hOw _ (fun b h => .inl h) fun hl b hb => by
        rcases hsup b hb with h | ⟨m, hm, _⟩
        · exact h
        · rw [hl] at hm; cases hm
    · exact (PR.rd _ _ _ hsup (fun b hb => .inr (.inr hb)) (fun q hq => hhd q (List.mem_cons_of_mem _ hq))).1 q hq
  · exact (PR.rd _ _ _ hsup (fun b hb => .inr (.inr hb)) (fun q hq => hhd q (List.mem_cons_of_mem _ hq))).2
end
end Go.AM
end
section
namespace Go.AM
open Go
set_option linter.unusedVariables false
theorem capsC_sound : ∀ {vs : List TV} {k : List AV → Prop}, capsC vs k → ∃ cs, k cs ∧ cs.length = vs.length ∧ ∀ (j : Nat) (c : AV), cs[j]? = some c → vs[j]? = some (.one c) ∧ ∃ n i off, c = .ptr n i off
  | [], k, h => ⟨[], h, rfl, fun j c h => by simp at h⟩
  | v :: r, k, h => by
    unfold capsC at h
    split at h
    · rename_i h1; cases h1
    · rename_i n i off r' h1
      simp only [List.cons.injEq] at h1
      obtain ⟨rfl, rfl⟩ := h1
      obtain ⟨cs, h, h1, h2⟩ := capsC_sound h
      refine ⟨_, h, by simp [h1], fun j c hj => ?_⟩
      cases j with
      | zero => simp at hj; subst hj; exact ⟨rfl, n, i, off, rfl⟩
      | succ j => simpa using h2 j c (by simpa using hj)
    · exact h.elim
theorem Ar_of_A0 {P : Program} {st : St} {pl : Pl} {Z : Nat → Prop} {w : World} {v : AV} {x : Value} (h : A0 P st pl Z w v x) : Ar P st pl Z w v x := by
  cases v <;> first | exact h | exact h.elim
section
variable {E : Env} (hE : tabB E = true) {uid : Nat} {st : St} {o : Oper} {k : Pk → Prop}
theorem sd_extract {x : Operand} {i : Nat} (ho : o.op = .extract x i) (h : opP E uid st o k) : OpOk E uid st o k := by
  simp only [opP, ho] at h
  replace h := getX_sound h
  obtain ⟨rt, v, h, hr, he⟩ := h
  split at h
  · split at h
    · rename_i a cs hi
      split at h
      · rename_i hl
        exact ⟨_, h, good_extract ho he hi fun ha => lenIs_iff.1 (by simpa [ha] using hl), hr, RdO.nil⟩
      · exact h.elim
    · exact h.elim
  · exact h.elim
theorem sd_makeFunc {fn : Fn} {first caps : Array Operand} (ho : o.op = .makeFunc fn first caps) (h : opP E uid st o k) : OpOk E uid st o k := by
  simp only [opP, ho] at h
  split at h
  · replace h := getXs_sound h
    obtain ⟨rt, vs, h, hr, hl, hev⟩ := h
    replace h := capsC_sound h
    obtain ⟨cs, h, h1, h2⟩ := h
    refine ⟨_, h, good_makeFunc ho (by rw [h1, hl]; simp) fun j x c hx hc => ?_, hr, RdO.nil⟩
    obtain ⟨h3, h4⟩ := h2 j c hc
    exact ⟨h4, hev j 0 x (.one c) (by simp [hx]) h3⟩
  · exact h.elim
theorem args_sound {c : Call} {rt : List (Nat × TV)} {vs : List TV} (hl : vs.length = (c.argTypes.toList.zip c.args.toList).length) (hlen : vs.length = c.args.size)
    (hev : ∀ (j : Nat) (ty : Nat) (x : Operand) (v : TV), (c.argTypes.toList.zip c.args.toList)[j]? = some (ty, x) → vs[j]? = some v → ∃ rt', Ev E.P x rt' v ∧ ∀ p ∈ rt', p ∈ rt)
    {cx : Cx} {st : St} {a : Act} {w : World} {pl : Pl} {Z : Nat → Prop} (R : Rel E.P cx st a w pl Z) (ht : RdT rt st) : ∀ (j : Nat) (v : TV) (x : Value), vs[j]? = some v → (c.args.map a.eval).toList[j]? = some x → Tr E.P st pl Z w v x := by
  intro j v x hv hx
  simp only [Array.toList_map, List.getElem?_map, Option.map_eq_some_iff] at hx
  obtain ⟨y, hy, rfl⟩ := hx
  have hj : j < (c.argTypes.toList.zip c.args.toList).length := by rw [← hl]; exact (List.getElem?_eq_some_iff.1 hv).1
  have hz := List.getElem?_eq_getElem hj
  have h2 : ((c.argTypes.toList.zip c.args.toList)[j]).2 = y := by
    have : c.args.toList[j]? = some ((c.argTypes.toList.zip c.args.toList)[j]).2 := by
      simp only [List.getElem_zip]
      exact List.getElem?_eq_getElem (by simp at hj; simp; omega)
    rw [this] at hy
    exact Option.some.inj hy
  obtain ⟨rt', he, hsub⟩ := hev j _ _ v (by rw [hz]) hv
  rw [h2] at he
  exact (he cx st a w pl Z R fun p hp => ht p (hsub p hp)).1
theorem keptOk_split {kp : Bool} {lent : List Nat} : ∀ {cs : List AV} {k : Prop}, keptOk kp lent cs k → keptOk kp lent cs True ∧ k := by
  intro cs
  induction cs with
  | nil => intro k h; exact ⟨trivial, h⟩
  | cons a r ih =>
    intro k h
    cases a <;> simp only [keptOk] at h ⊢
    case sl t rows =>
      split at h
      · exact ⟨⟨h.1, (ih h.2).1⟩, (ih h.2).2⟩
      · exact ih h
    all_goals exact ih h
theorem keptV_split {kp : Bool} {lent : List Nat} {v : TV} {k : Prop} (h : keptV kp lent v k) : keptV kp lent v True ∧ k := by
  unfold keptV at h ⊢
  split at h <;> exact keptOk_split h
theorem arrBack_split {lent : List Nat} : ∀ {cs : List AV} {k : Prop}, arrBack lent cs k → arrBack lent cs True ∧ k := by
  intro cs
  induction cs with
  | nil => intro k h; exact ⟨trivial, h⟩
  | cons a r ih =>
    intro k h
    cases a with
    | prim v => simp only [arrBack] at h ⊢; exact ih h
    | sl t rows =>
      cases lent with
      | nil => simp only [arrBack] at h ⊢; exact ih h
      | cons m ms => simp only [arrBack] at h ⊢; exact ⟨⟨h.1, (ih h.2).1⟩, (ih h.2).2⟩
    | fr ns t rows =>
      cases ns with
      | nil =>
        cases lent with
        | nil => simp only [arrBack] at h ⊢; exact ih h
        | cons m ms => simp only [arrBack] at h
      | cons m ms => simp only [arrBack] at h
    | _ => simp only [arrBack] at h
theorem tyI_elim {t : Nat} {k : TI → Prop} (h : tyI E t k) : ∃ ti, k ti := by
  unfold tyI at h
  split at h
  · exact ⟨_, h⟩
  · exact h.elim
theorem ptyI_elim {t : Nat} {k : TI → Prop} (h : ptyI E t k) : ∃ ti, k ti := by
  unfold ptyI at h
  split at h
  · split at h
    · exact tyI_elim h
    · exact ⟨_, h⟩
  · exact h.elim
theorem callIoP_sound {f ty lo hi : Nat} {rt : List (Nat × TV)} {ms : List Mode} {v0 : TV} {r : List TV} (h : callIoP E st uid f ty lo hi rt ms v0 r k) {c : Call} {fo : Operand} (ho : o.op = .call c) (hc : c.callee = .value fo) (hr : RdT rt st)
    (hargs : ∀ (cx : Cx) (st : St) (a : Act) (w : World) (pl : Pl) (Z : Nat → Prop), Rel E.P cx st a w pl Z → RdT rt st → ∃ capsV : Array Value, a.eval fo = .func (.func f) #[] capsV ∧ (c.args.map a.eval ++ capsV).toList.length = (v0 :: r).length ∧
      ∀ (j : Nat) (v : TV) (x : Value), (v0 :: r)[j]? = some v → (c.args.map a.eval ++ capsV).toList[j]? = some x → Tr E.P st pl Z w v x) : OpOk E uid st o k := by
  unfold callIoP at h
  split at h
  · rename_i n i off
    replace h := ptyI_elim h
    obtain ⟨ti, h⟩ := h
    simp only at h
    split at h
    · rename_i row hob
      split at h
      · rename_i hle
        replace h := ioBox_sound h
        obtain ⟨cs, ns, ro1, ds1, h, a1, a2, a3, a4, a5, a6, a7, a8⟩ := h
        replace h := gath_sound h
        obtain ⟨ins, lent, ro2, ds2, h, hg⟩ := h
        rw [List.append_nil] at h hg
        split at h
        · rename_i hh
          obtain ⟨bs, res, hsem, h⟩ := h
          obtain ⟨hk1, h⟩ := keptOk_split h
          obtain ⟨hk2, h⟩ := keptV_split h
          simp only [fAVs_eq] at h
          split at h
          · rename_i b1 b2 b3
            rw [fTV_eq, fOs_eq] at h
            exact ⟨_, h, good_callB ho hc hargs (leLen_iff.1 hle) (maskS_spec lo hi _) a1 a2 a3 a4 a6 a7 a8 hg (fun m hm hml => hitN_false.1 hh m hm hml) hsem hk1 hk2 (allB_iff.1 b1) b2 b3, hr, RdO.cons.2 ⟨hob, RdO.append.2 ⟨a1, hg.1⟩⟩⟩
          · exact h.elim
        · exact h.elim
      · exact h.elim
    · rename_i t rows p hob
      obtain ⟨row, hrow, h⟩ := h
      split at h
      · rename_i hle hC
        replace h := gath_sound h
        obtain ⟨ins, lent, ro2, ds2, h, hg⟩ := h
        rw [List.append_nil] at h
        split at h
        · rename_i hh
          obtain ⟨bs, res, hsem, h⟩ := h
          obtain ⟨hk1, h⟩ := arrBack_split h
          obtain ⟨hk2, h⟩ := keptV_split h
          split at h
          · rename_i b3
            rw [fAVs_eq, fTV_eq, fOs_eq] at h
            exact ⟨_, h, good_callA ho hc hargs hrow (leLen_iff.1 hle) hC hg (fun m hm hml => hitN_false.1 hh m hm hml) hsem hk1 hk2 b3, hr, RdO.cons.2 ⟨hob, hg.1⟩⟩
          · exact h.elim
        · exact h.elim
      · exact h.elim
    · exact h.elim
  · exact h.elim
theorem callP_sound {f ty : Nat} {rt : List (Nat × TV)} {args : List TV} (h : callP E st uid f ty rt args k) {c : Call} {fo : Operand} (ho : o.op = .call c) (hc : c.callee = .value fo) (hr : RdT rt st)
    (hargs : ∀ (cx : Cx) (st : St) (a : Act) (w : World) (pl : Pl) (Z : Nat → Prop), Rel E.P cx st a w pl Z → RdT rt st → ∃ capsV : Array Value, a.eval fo = .func (.func f) #[] capsV ∧ (c.args.map a.eval ++ capsV).toList.length = args.length ∧
      ∀ (j : Nat) (v : TV) (x : Value), args[j]? = some v → (c.args.map a.eval ++ capsV).toList[j]? = some x → Tr E.P st pl Z w v x) : OpOk E uid st o k := by
  unfold callP at h
  split at h
  · exact callIoP_sound h ho hc hr hargs
  · replace h := gath_sound h
    obtain ⟨ins, lent, ro, ds, h, hg⟩ := h
    rw [List.append_nil] at h
    split at h
    · rename_i hh
      obtain ⟨res, hsem, h⟩ := h
      obtain ⟨hk1, hk2⟩ := keptV_split h
      simp only at hk2
      split at hk2
      · rename_i hin
        rw [fTV_eq, fOs_eq] at hk2
        refine ⟨_, hk2, good_call ho hc hargs hg (fun m hm hml => hitN_false.1 hh m (by simpa using hm) hml) hsem hk1 hin, hr, hg.1⟩
      · exact hk2.elim
    · exact h.elim
include hE
theorem sd_call {c : Call} (ho : o.op = .call c) (h : opP E uid st o k) : OpOk E uid st o k := by
  simp only [opP, ho] at h
  split at h
  ·
    rename_i hc
    split at h
    · rename_i x t ha hty
      replace h := getX_sound h
      obtain ⟨rt, v, h, hr, he⟩ := h
      split at h
      · replace h := ty_ok hE h
        obtain ⟨ti, hT, _, h⟩ := h
        split at h
        · rename_i hd hz
          exact ⟨_, h, good_lenS ho hc ha hty (tiS hT hd hz) he, hr, RdO.nil⟩
        · exact h.elim
      · rename_i ns t' rows
        replace h := ty_slice hE h
        obtain ⟨e, hu, h⟩ := h
        replace h := alive_sound h
        obtain ⟨ro, h, hro, hal⟩ := h
        refine ⟨_, h, good_lenL ho hc ha hty hu he fun cx st a w pl Z R hro y hy => ?_, hr, hro⟩
        have h3 : Rd E.P w (Sup pl Z ns) (.sl t' rows) y := hy (hal st hro)
        obtain ⟨ad, cap, e1, _⟩ := rd_sl_inv h3
        exact ⟨ad, cap, e1⟩
      · replace h := ty_slice hE h
        obtain ⟨e, hu, h⟩ := h
        exact ⟨_, h, good_lenL (n := 0) ho hc ha hty hu he fun cx st a w pl Z R hro y hy => ⟨none, 0, hy⟩, hr, RdO.nil⟩
      · replace h := ty_slice hE h
        obtain ⟨e, hu, h⟩ := h
        split at h
        · rename_i te rows p hob
          refine ⟨_, h, good_lenL ho hc ha hty hu he fun cx st a w pl Z R hro y hy => ?_, hr, RdO.cons.2 ⟨hob, RdO.nil⟩⟩
          have hob' := (RdO.cons.1 hro).1
          rw [hy te rows p hob']
          obtain ⟨cells, fs, g1, _⟩ := ob_own R hob'
          obtain ⟨ad, cap, e1, _⟩ := src_of_own g1
          exact ⟨ad, cap, e1⟩
        · exact h.elim
      · exact h.elim
    · exact h.elim
  ·
    rename_i hc
    split at h
    · rename_i x y t t' ha hty
      replace h := getX_sound h
      obtain ⟨rt, v, h, hr, he⟩ := h
      replace h := getX_sound h
      obtain ⟨rt', w, h, hr', he'⟩ := h
      replace h := ty_slice hE h
      obtain ⟨e, hu, h⟩ := h
      replace h := ty_ok hE h
      obtain ⟨ti, hT, _, h⟩ := h
      split at h
      · rename_i htt
        have htt' := Nat.eq_of_beq_eq_true htt
        subst htt'
        split at h
        · rename_i te rows hob
          split at h
          · exact h.elim
          · rename_i hte
            have hte' := Nat.eq_of_beq_eq_true hte
            subst hte'
            split at h
            · split at h
              · rename_i te' rows' hmn hob'
                split at h
                · rename_i hte2
                  have hte2' := Nat.eq_of_beq_eq_true hte2
                  subst hte2'
                  obtain ⟨hb, h⟩ := h
                  split at h
                  · obtain ⟨hp, h⟩ := h
                    refine ⟨_, h, good_appendS ho hc ha hty hu hT he he' (fun e => ?_) hb hp, RdT.append.2 ⟨hr, hr'⟩, RdO.cons.2 ⟨hob, RdO.cons.2 ⟨hob', RdO.nil⟩⟩⟩
                    rw [e, Nat.beq_refl] at hmn; cases hmn
                  · refine ⟨_, h, good_appendR ho hc ha hty hu hT he he' (fun e => ?_) hb, RdT.append.2 ⟨hr, hr'⟩, RdO.cons.2 ⟨hob, RdO.cons.2 ⟨hob', RdO.nil⟩⟩⟩
                    rw [e, Nat.beq_refl] at hmn; cases hmn
                · exact h.elim
              · exact h.elim
            · replace h := alive_sound h
              obtain ⟨ro, h, hro, hal⟩ := h
              split at h
              · rename_i hte2 hmn
                have hte2' := Nat.eq_of_beq_eq_true hte2
                subst hte2'
                obtain ⟨hb, h⟩ := h
                rcases h with ⟨hp, h⟩ | ⟨rfl, hp, h⟩
                · exact ⟨_, h, good_appendP ho hc ha hty hu hT he he' hal hb hp, RdT.append.2 ⟨hr, hr'⟩, RdO.cons.2 ⟨hob, hro⟩⟩
                · exact ⟨_, h, good_appendF ho hc ha hty hu hT he he' hb hp, RdT.append.2 ⟨hr, hr'⟩, RdO.cons.2 ⟨hob, hro⟩⟩
              · exact h.elim
            · exact h.elim
        · exact h.elim
      · exact h.elim
    · exact h.elim
  ·
    rename_i f hc
    replace h := getXs_sound h
    obtain ⟨rt, vs, h, hr, hl, hev⟩ := h
    split at h
    · rename_i hlen
      have hlen' : vs.length = c.args.size := by simpa using lenIs_iff.1 hlen
      exact callP_sound h ho hc hr fun cx st' a w pl Z R ht => ⟨#[], rfl, by simp [hlen'], fun j v x hv hx => args_sound hl hlen' hev R ht j v x hv (by simpa using hx)⟩
    · exact h.elim
  ·
    rename_i i hc
    split at h
    · rename_i f caps hfn
      replace h := getXs_sound h
      obtain ⟨rt, vs, h, hr, hl, hev⟩ := h
      split at h
      · rename_i hlen
        have hlen' : vs.length = c.args.size := by simpa using lenIs_iff.1 hlen
        refine callP_sound h ho hc (RdT.cons.2 ⟨hfn, hr⟩) fun cx st' a w pl Z R ht => ?_
        obtain ⟨hf, ht⟩ := RdT.cons.1 ht
        obtain ⟨y, h1, h2⟩ := R.tmp i _ hf
        obtain ⟨arr, rfl, e1, e2⟩ := h2
        refine ⟨arr.toArray, by simp [Act.eval, Array.getD_eq_getD_getElem?, h1], by simp [hlen', e1], fun j v x hv hx => ?_⟩
        have hal : (c.args.map a.eval).toList.length = vs.length := by simp [hlen']
        rw [Array.toList_append] at hx
        by_cases hj : j < vs.length
        · rw [List.getElem?_append_left hj] at hv
          rw [List.getElem?_append_left (by omega)] at hx
          exact args_sound hl hlen' hev R ht j v x hv hx
        · rw [List.getElem?_append_right (by omega)] at hv hx
          rw [hal] at hx
          rw [List.getElem?_map, Option.map_eq_some_iff] at hv
          obtain ⟨av, hv, rfl⟩ := hv
          exact Ar_of_A0 (e2 _ av x hv (by simpa using hx))
      · exact h.elim
    · exact h.elim
  · exact h.elim
theorem opP_sound (h : opP E uid st o k) : OpOk E uid st o k := by
  cases ho : o.op with
  | move x => exact sd_move ho h
  | assign x => exact sd_assign ho h
  | pick c a b => exact sd_pick ho h
  | alloc e => exact sd_alloc hE ho h
  | box e x => exact sd_box hE ho h
  | build t parts => exact sd_build hE ho h
  | buildSlice t n parts => exact sd_buildSlice hE ho h
  | load t x => exact sd_load hE ho h
  | store t x v => exact sd_store hE ho h
  | nilCheck x => exact sd_nilCheck ho h
  | binOp op t x y ty => exact sd_bin hE ho h
  | unOp op t x => exact sd_un ho h
  | convert s d x => exact sd_convert hE ho h
  | makeFunc fn first caps => exact sd_makeFunc ho h
  | makeSlice t l c => exact sd_makeSlice hE ho h
  | slice t x lo hi mx => exact sd_slice hE ho h
  | fieldAddr s x f => exact sd_fieldAddr hE ho h
  | field s x f => exact sd_field hE ho h
  | indexAddr t x ix => exact sd_indexAddr hE ho h
  | index t x ix => exact sd_index hE ho h
  | extract x i => exact sd_extract ho h
  | call c => exact sd_call hE ho h
  | _ => simp only [opP, ho] at h
end
end Go.AM
end
section
namespace Go.AM
open Go
set_option linter.unusedVariables false
structure SEq (st st' : St) : Prop where
  t : ∀ i, lk st'.t i = lk st.t i
  s : ∀ n, lk st'.s n = lk st.s n
  u : ∀ n, memN n st'.u = memN n st.u
theorem SEq.refl (st : St) : SEq st st := ⟨fun _ => rfl, fun _ => rfl, fun _ => rfl⟩
theorem SEq.trans {a b c : St} (h : SEq a b) (g : SEq b c) : SEq a c := ⟨fun i => (g.t i).trans (h.t i), fun i => (g.s i).trans (h.s i), fun i => (g.u i).trans (h.u i)⟩
theorem SEq.symm {a b : St} (h : SEq a b) : SEq b a := ⟨fun i => (h.t i).symm, fun i => (h.s i).symm, fun i => (h.u i).symm⟩
theorem ObR.congr {P : Program} {st st' : St} {pl : Pl} {Z : Nat → Prop} {w : World} (hs : ∀ n, lk st'.s n = lk st.s n) {n : Nat} {o : Ob} (h : ObR P st pl Z w n o) : ObR P st' pl Z w n o := by
  cases o with
  | box row => obtain ⟨h1, c, ty, h2, h3, h4⟩ := h; exact ⟨h1, c, ty, h2, h3, fun k av y hk hy => Ar.congr hs (h4 k av y hk hy)⟩
  | arr t rows p => exact h
theorem Rel.congr {P : Program} {cx : Cx} {st st' : St} {a : Act} {w : World} {pl : Pl} {Z : Nat → Prop} (R : Rel P cx st a w pl Z) (h : SEq st st') : Rel P cx st' a w pl Z := by
  have hh : ∀ n, st'.has n ↔ st.has n := fun n => by unfold St.has St.O; rw [h.s]
  have hu : ∀ n, memN n st.u = true → memN n st'.u = true := fun n hn => by rw [h.u]; exact hn
  refine ⟨R.tsz, R.df, fun i v hv => ?_, fun n o ho => ?_, fun n hn => R.nd n ((hh n).1 hn), fun n m hn hm => R.dj n m ((hh n).1 hn) ((hh m).1 hm), fun n hn => R.lt n ((hh n).1 hn), R.zlt, R.z0, R.fr, fun i hi n row hr => R.io i hi n row (by rw [← h.s]; exact hr),
    fun i hi n t rows p hr => R.ioa i hi n t rows p (by rw [← h.s]; exact hr), fun i v hv => TV.inU_mono hu (R.ut i v (by rw [← h.t]; exact hv)), fun n o ho => ?_, fun i hi => ⟨hu _ (R.u0 i hi).1, fun hn => (R.u0 i hi).2 ((hh 63).1 hn)⟩, R.gl⟩
  · obtain ⟨x, h1, h2⟩ := R.tmp i v (by rw [← h.t]; exact hv)
    exact ⟨x, h1, Tr.congr h.s h2⟩
  · exact ObR.congr h.s (R.obj n o (by rw [← h.s]; exact ho))
  · obtain ⟨h1, h2⟩ := R.us n o (by rw [← h.s]; exact ho)
    exact ⟨hu _ h1, Ob.inU_mono hu h2⟩
theorem applyK_eq {st : St} {dst : Option Nat} {uid : Nat} {pk : Pk} {k : St → Prop} (h : applyK st dst uid pk k) : ∃ st', k st' ∧ SEq (apply st dst uid pk) st' := by
  unfold applyK at h
  split at h
  · rename_i hp hd
    have e : olds st pk.put ++ pk.del = [] := by rw [hp, hd]; rfl
    split at h
    · rename_i t s u d
      rw [fTV_eq] at h
      refine ⟨_, h, fun i => ?_, fun n => ?_, fun n => rfl⟩
      · rw [apply_t, e, lk_cons]
        simp only [Option.some.injEq]
        split
        · rfl
        · cases lk t i <;> simp [TV.drop_nil]
      · rw [apply_s, e, hp, hd]
        simp only [lk, List.not_mem_nil, if_false]
        cases lk s n <;> simp [Ob.drop_nil]
    · rename_i t s u
      refine ⟨_, h, fun i => ?_, fun n => ?_, fun n => rfl⟩
      · rw [apply_t, e]
        simp only [reduceCtorEq, if_false]
        cases lk t i <;> simp [TV.drop_nil]
      · rw [apply_s, e, hp, hd]
        simp only [lk, List.not_mem_nil, if_false]
        cases lk s n <;> simp [Ob.drop_nil]
  · rename_i put del hp
    obtain ⟨t, s, u⟩ := st
    simp only [fNs_eq, fTs_eq, fOs_eq, namesR_eq, mapR_eq, withoutR_eq, hasR_eq] at h
    cases dst with
    | some d => simp only [fTV_eq] at h; exact ⟨_, h, fun i => rfl, fun n => rfl, fun n => rfl⟩
    | none => exact ⟨_, h, fun i => rfl, fun n => rfl, fun n => rfl⟩
section
variable {E : Env} (hE : tabB E = true)
structure Ran (E : Env) (uid : Nat) (st : St) (o : Oper) (pk : Pk) : Prop where
  good : Good E.P o uid pk
  rt : RdT pk.rt st
  ro : RdO pk.ro st
  ok : okPk st uid pk = true
include hE in
theorem stepK_sound {uid : Nat} {st : St} {o : Oper} {k : St → Pk → Prop} (h : stepK E uid st o k) : ∃ pk st', k st' pk ∧ Ran E uid st o pk ∧ SEq (apply st o.dst uid pk) st' := by
  unfold stepK at h
  obtain ⟨pk, h, hg, hr, hro⟩ := opP_sound hE h
  split at h
  · rename_i hok
    obtain ⟨st', h, hs⟩ := applyK_eq h
    exact ⟨pk, st', h, ⟨hg, hr, hro, okPkR_ok hok⟩, hs⟩
  · exact h.elim
theorem Ran.wp {uid : Nat} {st : St} {o : Oper} {pk : Pk} (H : Ran E uid st o pk) {cx : Cx} {a : Act} {w : World} {pl : Pl} {Z : Nat → Prop} (R : Rel E.P cx st a w pl Z) (hd : ∀ d, o.dst = some d → d < cx.nt)
    {K : Act → World → Prop} {Q : Exit → Act → World → Prop} (hK : ∀ a' w' pl' Z', Rel E.P cx (apply st o.dst uid pk) a' w' pl' Z' → K a' w') : o.wp E.P a w K Q :=
  H.good cx st a w pl Z R H.rt H.ro H.ok K Q fun x w' pl' Z' S => hK _ _ pl' Z' (R.step hd H.ok S)
theorem guard_val {P : Program} {cx : Cx} {st : St} {a : Act} {w : World} {pl : Pl} {Z : Nat → Prop} (R : Rel P cx st a w pl Z) {ops : Array Oper} {j d : Nat} {b : Bool} (hg : guardD ops.toList j = some d) (hv : lk st.t d = some (.one (.prim (.bool b)))) : yielded ops a.tmps j = some b := by
  obtain ⟨x, h1, h2⟩ := R.tmp d _ hv
  obtain ⟨rfl, _⟩ := h2
  unfold guardD at hg
  rw [Array.getElem?_toList] at hg
  unfold yielded
  cases ho : ops[j]? with
  | none => rw [ho] at hg; cases hg
  | some o => rw [ho] at hg; simp only at hg; simp [hg, h1]
def putT (st : St) (d : Option Nat) (v : TV) : St := ⟨match d with | some d => (d, v) :: st.t | none => st.t, st.s, st.u⟩
def skipS (st : St) (d : Option Nat) : St := putT st d (.tup [])
theorem guard_undef {P : Program} {cx : Cx} {st : St} {a : Act} {w : World} {pl : Pl} {Z : Nat → Prop} (R : Rel P cx st a w pl Z) {ops : Array Oper} {j d : Nat} (hg : guardD ops.toList j = some d) (hv : lk st.t d = some (.tup [])) : yielded ops a.tmps j = none := by
  obtain ⟨x, h1, h2⟩ := R.tmp d _ hv
  obtain ⟨xs, rfl, h2, _⟩ := h2
  obtain rfl : xs = [] := List.eq_nil_of_length_eq_zero h2
  unfold guardD at hg
  rw [Array.getElem?_toList] at hg
  unfold yielded
  cases ho : ops[j]? with
  | none => rw [ho] at hg; cases hg
  | some o => rw [ho] at hg; simp only at hg; simp [hg, h1]
theorem Rel.skip {P : Program} {cx : Cx} {st : St} {a : Act} {w : World} {pl : Pl} {Z : Nat → Prop} (R : Rel P cx st a w pl Z) {dst : Option Nat} (hd : ∀ d, dst = some d → d < cx.nt) : Rel P cx (skipS st dst) (a.put dst undef) w pl Z := by
  cases dst with
  | none => exact R.congr ⟨fun _ => rfl, fun _ => rfl, fun _ => rfl⟩
  | some d =>
    have hlt := hd d rfl
    refine ⟨by simp [Act.put, R.tsz], R.df, fun i v hv => ?_, R.obj, R.nd, R.dj, R.lt, R.zlt, R.z0, R.fr, R.io, R.ioa, fun i v hv => ?_, R.us, R.u0, R.gl⟩
    · simp only [skipS, putT, lk_cons] at hv
      split at hv
      · rename_i e
        subst e
        simp only [Option.some.injEq] at hv
        subst hv
        exact ⟨undef, by simp [Act.put, R.tsz, hlt], [], rfl, rfl, by simp⟩
      · rename_i e
        obtain ⟨x, h1, h2⟩ := R.tmp i v hv
        exact ⟨x, by simp only [Act.put]; rw [Array.getElem?_setIfInBounds_ne e]; exact h1, h2⟩
    · simp only [skipS, putT, lk_cons] at hv
      split at hv
      · simp only [Option.some.injEq] at hv; subst hv; rfl
      · exact R.ut i v hv
theorem setK_eq {st : St} {d : Option Nat} {v : TV} {k : St → Prop} (h : setK st d v k) : k (putT st d v) := by
  unfold setK at h
  split at h <;> exact h
theorem set_same {st : St} {d : Nat} {v : TV} (h : lk st.t d = some v) : SEq st ⟨(d, v) :: st.t, st.s, st.u⟩ := by
  refine ⟨fun i => ?_, fun _ => rfl, fun _ => rfl⟩
  rw [lk_cons]
  split
  · rename_i e; subst e; exact h.symm
  · rfl
include hE in
theorem seq_sound {cx : Cx} {ops : Array Oper} {rid : Nat} {Q : Exit → Act → World → Prop} (hd : ∀ o ∈ ops.toList, ∀ d, o.dst = some d → d < cx.nt) : ∀ {r : List Oper} {i : Nat} {st : St} {k : St → Prop}, ops.toList.drop i = r → vcSeq E ops.toList rid r i st k →
    ∀ {a : Act} {w : World} {pl : Pl} {Z : Nat → Prop}, Rel E.P cx st a w pl Z → (∀ st' a' w' pl' Z', k st' → Rel E.P cx st' a' w' pl' Z' → Q .normal a' w') → wpOps E.P ops Q (List.range' i r.length) a w
  | [], i, st, k, hr, h, a, w, pl, Z, R, hQ => hQ st a w pl Z h R
  | o :: r, i, st, k, hr, h, a, w, pl, Z, R, hQ => by
    have hi : ops[i]? = some o := by
      have : ops.toList[i]? = some o := by rw [← List.head?_drop, hr]; rfl
      rwa [Array.getElem?_toList] at this
    have hr' : ops.toList.drop (i + 1) = r := by rw [← List.tail_drop, hr]; rfl
    have hdo : ∀ d, o.dst = some d → d < cx.nt := hd o (by rw [← Array.getElem?_toList] at hi; exact List.mem_of_getElem? hi)
    rw [List.length_cons, List.range'_succ]
    simp only [wpOps, hi]
    have run : ∀ st, Rel E.P cx st a w pl Z → stepK E ((rid + 1) * 1000 + i) st o (fun st' _ => vcSeq E ops.toList rid r (i + 1) st' k) → o.wp E.P a w (wpOps E.P ops Q (List.range' (i + 1) r.length)) Q := by
      intro st R h
      obtain ⟨pk, st', h, H, hs⟩ := stepK_sound hE h
      exact H.wp R hdo fun a' w' pl' Z' R' => seq_sound hd hr' h (R'.congr hs) hQ
    have skip : ∀ st, Rel E.P cx st a w pl Z → setK st o.dst (.tup []) (fun st => vcSeq E ops.toList rid r (i + 1) st k) → wpOps E.P ops Q (List.range' (i + 1) r.length) (a.put o.dst undef) w := by
      intro st R h
      exact seq_sound hd hr' (setK_eq h) (R.skip hdo) hQ
    simp only [vcSeq] at h
    split at h
    · rename_i hg
      have hw : Region.wanted o (yielded ops a.tmps) = true := by simp [Region.wanted, hg]
      rw [if_pos hw]
      exact .inl (run st R h)
    · rename_i j want hg
      split at h
      · rename_i d hgd
        split at h
        · rename_i b hv
          have hy := guard_val R hgd hv
          have hs : ∀ b', b = b' → SEq st ⟨(d, .one (.prim (.bool b'))) :: st.t, st.s, st.u⟩ := fun b' e => set_same (by rw [hv, e])
          have hw : Region.wanted o (yielded ops a.tmps) = (b == want) := by simp [Region.wanted, hg, hy]
          rw [hw]
          cases want <;> cases b <;> simp only [ifB] at h ⊢
          · exact .inl (run _ (R.congr (hs false rfl)) (setK_eq h))
          · exact skip _ (R.congr (hs true rfl)) (setK_eq h)
          · exact skip _ (R.congr (hs false rfl)) (setK_eq h)
          · exact .inl (run _ (R.congr (hs true rfl)) (setK_eq h))
        · rename_i hv
          have hy := guard_undef R hgd hv
          have hw : Region.wanted o (yielded ops a.tmps) = false := by simp [Region.wanted, hg, hy]
          rw [hw]
          exact skip _ R h
        · exact h.elim
      · exact h.elim
end
end Go.AM
end
section
namespace Go.AM
open Go
set_option linter.unusedVariables false
theorem AV.drop_comm (a : AV) (k k' : List Nat) : (a.drop k).drop k' = (a.drop k').drop k := by
  cases a <;> simp only [AV.drop]
  · rename_i ns t r; cases h : hitN ns k <;> cases h' : hitN ns k' <;> simp [AV.drop, h, h']
  · rename_i ns t r; cases h : hitN ns k <;> cases h' : hitN ns k' <;> simp [AV.drop, h, h']
  · rename_i f c; cases h : anyTag k c <;> cases h' : anyTag k' c <;> simp [AV.drop, h, h']
theorem TV.drop_comm (a : TV) (k k' : List Nat) : (a.drop k).drop k' = (a.drop k').drop k := by
  cases a <;> simp only [TV.drop, List.map_map, Function.comp_def, AV.drop_comm _ k k']
theorem Ob.drop_comm (a : Ob) (k k' : List Nat) : (a.drop k).drop k' = (a.drop k').drop k := by
  cases a <;> simp only [Ob.drop, List.map_map, Function.comp_def, AV.drop_comm _ k k']
theorem AV.drop_id {a : AV} {k : List Nat} (h : ∀ n ∈ a.tags, n ∉ k) : a.drop k = a := by
  cases a <;> simp only [AV.drop]
  · rename_i ns _ _; rw [hitN_false.2 (show ∀ n ∈ ns, n ∉ k from h)]; rfl
  · rename_i ns _ _; rw [hitN_false.2 (show ∀ n ∈ ns, n ∉ k from h)]; rfl
  · rename_i f c
    have : anyTag k c = false := anyTag_false.2 fun x hx => by
      have h' : ∀ n ∈ tags1 x, n ∉ k := fun n hn => h n (List.mem_flatMap.2 ⟨x, hx, hn⟩)
      cases x <;> simp only [AV.tag1] <;> exact hitN_false.2 h'
    rw [this]; rfl
theorem cells_drop_id {cs : List AV} {k : List Nat} (h : ∀ n ∈ cs.flatMap AV.tags, n ∉ k) : cs.map (AV.drop k) = cs := by
  conv => rhs; rw [← List.map_id cs]
  exact List.map_congr_left fun a ha => AV.drop_id fun n hn => h n (List.mem_flatMap.2 ⟨a, ha, hn⟩)
theorem TV.drop_id {a : TV} {k : List Nat} (h : ∀ n ∈ a.tags, n ∉ k) : a.drop k = a := by
  cases a with
  | one a => simp only [TV.drop]; rw [AV.drop_id h]
  | agg cs => simp only [TV.drop]; rw [cells_drop_id h]
  | tup vs =>
    simp only [TV.drop]
    congr 1
    conv => rhs; rw [← List.map_id vs]
    refine List.map_congr_left fun p hp => ?_
    rw [cells_drop_id fun n hn => h n (List.mem_flatMap.2 ⟨p, hp, hn⟩)]; rfl
theorem Ob.drop_id {a : Ob} {k : List Nat} (h : ∀ n ∈ a.tags, n ∉ k) : a.drop k = a := by
  cases a with
  | box row => simp only [Ob.drop]; rw [cells_drop_id h]
  | arr t rows p => rfl
theorem dirtyT_spec {ks : List Nat} {l : List (Nat × TV)} {i : Nat} {v : TV} (h : lk l i = some v) (hn : i ∉ dirtyT ks l) : v.drop ks = v := by
  cases ks with
  | nil => exact TV.drop_nil v
  | cons k r =>
    refine TV.drop_id fun n hm hk => hn ?_
    simp only [dirtyT]
    exact List.mem_map.2 ⟨(i, v), List.mem_filter.2 ⟨lk_mem h, hitN_iff.2 ⟨n, hm, hk⟩⟩, rfl⟩
theorem dirtyO_spec {ks : List Nat} {l : List (Nat × Ob)} {i : Nat} {v : Ob} (h : lk l i = some v) (hn : i ∉ dirtyO ks l) : v.drop ks = v := by
  cases ks with
  | nil => exact Ob.drop_nil v
  | cons k r =>
    refine Ob.drop_id fun n hm hk => hn ?_
    simp only [dirtyO]
    exact List.mem_map.2 ⟨(i, v), List.mem_filter.2 ⟨lk_mem h, hitN_iff.2 ⟨n, hm, hk⟩⟩, rfl⟩
structure It where
  i : Nat
  o : Oper
  g : List (Nat × TV)
  pk : Option Pk
  ft : Foot
def It.P (x : It) : Pk := x.pk.getD ⟨[], [], .tup [], [], []⟩
def It.ks (x : It) (st : St) : List Nat := olds st x.P.put ++ x.P.del
def It.ap (rid : Nat) (x : It) (st : St) : St := match x.pk with
  | some p => apply st x.o.dst ((rid + 1) * 1000 + x.i) p
  | none => skipS st x.o.dst
theorem It.ap_t (rid : Nat) (x : It) (st : St) (i : Nat) : lk (x.ap rid st).t i = if x.o.dst = some i then some x.P.val else (lk st.t i).map (TV.drop (x.ks st)) := by
  unfold It.ap It.ks It.P
  cases x.pk with
  | some p => exact apply_t st x.o.dst _ p i
  | none =>
    simp only [Option.getD_none, skipS, putT, olds, names, List.map_nil, List.filter_nil, List.append_nil]
    cases x.o.dst with
    | none => simp only [reduceCtorEq, if_false]; cases lk st.t i <;> simp [TV.drop_nil]
    | some d =>
      simp only [lk_cons, Option.some.injEq]
      split
      · rfl
      · cases lk st.t i <;> simp [TV.drop_nil]
theorem It.ap_s (rid : Nat) (x : It) (st : St) (n : Nat) : lk (x.ap rid st).s n = match lk x.P.put n with
    | some o => some o
    | none => if n ∈ x.P.del then none else (lk st.s n).map (Ob.drop (x.ks st)) := by
  unfold It.ap It.ks It.P
  cases x.pk with
  | some p => exact apply_s st x.o.dst _ p n
  | none =>
    simp only [Option.getD_none, skipS, putT, olds, names, List.map_nil, List.filter_nil, List.append_nil, lk, List.not_mem_nil, if_false]
    cases lk st.s n <;> simp [Ob.drop_nil]
theorem It.ap_u (rid : Nat) (x : It) (st : St) (m : Nat) : memN m (x.ap rid st).u = ((x.pk.isSome && Nat.beq ((rid + 1) * 1000 + x.i) m) || memN m st.u) := by
  unfold It.ap
  cases x.pk with
  | some p =>
    simp only [apply, memN, Option.isSome_some, Bool.true_and]
    cases Nat.beq ((rid + 1) * 1000 + x.i) m <;> rfl
  | none => simp [skipS, putT]
structure It.Can (E : Env) (ops : Array Oper) (rid : Nat) (x : It) (st : St) : Prop where
  at_ : ops[x.i]? = some x.o
  gt : RdT x.g st
  gd : match x.o.guard with
    | none => x.pk.isSome = true
    | some (j, want) => ∃ d gv, guardD ops.toList j = some d ∧ x.g = [(d, gv)] ∧ ((∃ b, gv = .one (.prim (.bool b)) ∧ (b == want) = x.pk.isSome) ∨ (gv = .tup [] ∧ x.pk = none))
  ran : ∀ p, x.pk = some p → Ran E ((rid + 1) * 1000 + x.i) st x.o p
structure It.Foots (x : It) : Prop where
  d : x.ft.d = x.o.dst
  i : x.ft.i = x.i
  rt : ∀ p ∈ x.g ++ x.P.rt, p.1 ∈ x.ft.rt
  ro : ∀ p ∈ x.P.ro, p.1 ∈ x.ft.ro
  wr : x.ft.wr = names x.P.put ++ x.P.del
  tgt : ∀ p ∈ x.g ++ x.P.rt, ∀ n ∈ p.2.tags, n ∈ x.ft.tg
  tgo : ∀ p ∈ x.P.ro, ∀ n ∈ p.2.tags, n ∈ x.ft.tg
  vt : ∀ n ∈ x.P.val.tags, n ∈ x.ft.vt
  vto : ∀ p ∈ x.P.put, ∀ n ∈ p.2.tags, n ∈ x.ft.vt
structure It.Dirty (x : It) (st : St) : Prop where
  t : ∀ i v, lk st.t i = some v → i ∉ x.ft.dt → v.drop (x.ks st) = v
  s : ∀ n o, lk st.s n = some o → n ∉ x.ft.dob → o.drop (x.ks st) = o
structure Apart (p q : Foot) : Prop where
  dq : ∀ d, p.d = some d → d ∉ q.rt
  dd : ∀ d, p.d = some d → q.d ≠ some d
  dp : ∀ d, q.d = some d → d ∉ p.rt
  wo : ∀ n ∈ p.wr, n ∉ q.ro
  ww : ∀ n ∈ p.wr, n ∉ q.wr
  wv : ∀ n ∈ p.wr, n ∉ q.vt
  ow : ∀ n ∈ q.wr, n ∉ p.ro
  gw : ∀ n ∈ q.wr, n ∉ p.tg
  vw : ∀ n ∈ q.wr, n ∉ p.vt
  dt : ∀ n ∈ p.dt, n ∉ q.rt
  dob : ∀ n ∈ p.dob, n ∉ q.ro
theorem apart_spec {p q : Foot} (h : apart p q = true) : Apart p q := by
  simp only [apart, Bool.and_eq_true, Bool.not_eq_true'] at h
  obtain ⟨⟨⟨⟨⟨⟨⟨⟨⟨h1, h2⟩, h3⟩, h4⟩, h5⟩, h6⟩, h7⟩, h8⟩, h9⟩, h10⟩ := h
  refine ⟨fun d hd => ?_, fun d hd e => ?_, fun d hd => ?_, hitN_false.1 h3, hitN_false.1 h4, hitN_false.1 h5, hitN_false.1 h6, hitN_false.1 h7, hitN_false.1 h8, hitN_false.1 h9, hitN_false.1 h10⟩
  · rw [hd] at h1
    simp only [Bool.and_eq_true, Bool.not_eq_true'] at h1
    exact memN_false.1 h1.1
  · rw [hd, e] at h1
    simp at h1
  · rw [hd] at h2
    simp only [Bool.not_eq_true'] at h2
    exact memN_false.1 h2
theorem It.ks_wr {x : It} (F : x.Foots) (st : St) : ∀ n ∈ x.ks st, n ∈ x.ft.wr := by
  intro n hn
  rw [F.wr]
  rcases List.mem_append.1 hn with h | h
  · exact List.mem_append_left _ (olds_mem.1 h).1
  · exact List.mem_append_right _ h
theorem lk_put_none {l : List (Nat × Ob)} {n : Nat} (h : n ∉ names l) : lk l n = none := by
  cases hl : lk l n with
  | none => rfl
  | some o => exact absurd (lk_isSome.1 (by rw [hl]; rfl)) h
theorem olds_same {st st' : St} {l : List (Nat × Ob)} (h : ∀ n ∈ names l, (lk st'.s n).isSome = (lk st.s n).isSome) : olds st' l = olds st l := by
  unfold olds
  exact List.filter_congr fun n hn => h n hn
theorem okPk_same {st st' : St} {uid : Nat} {pk : Pk} (hs : ∀ n, n ∈ names pk.put ∨ n ∈ pk.del → (lk st'.s n).isSome = (lk st.s n).isSome) (hu : memN uid st'.u = memN uid st.u) : okPk st' uid pk = okPk st uid pk := by
  unfold okPk
  split
  · rfl
  · rw [hu]
    have e1 : ((names pk.put).all fun n => (memN n (names pk.ro) && (lk st'.s n).isSome) || Nat.beq (n / 64) uid) = ((names pk.put).all fun n => (memN n (names pk.ro) && (lk st.s n).isSome) || Nat.beq (n / 64) uid) := by
      rw [Bool.eq_iff_iff, List.all_eq_true, List.all_eq_true]
      constructor <;> intro h n hn
      · rw [← hs n (.inl hn)]; exact h n hn
      · rw [hs n (.inl hn)]; exact h n hn
    have e2 : (pk.del.all fun n => (lk st'.s n).isSome && !memN n (names pk.put)) = (pk.del.all fun n => (lk st.s n).isSome && !memN n (names pk.put)) := by
      rw [Bool.eq_iff_iff, List.all_eq_true, List.all_eq_true]
      constructor <;> intro h n hn
      · rw [← hs n (.inr hn)]; exact h n hn
      · rw [hs n (.inr hn)]; exact h n hn
    rw [e1, e2]
end Go.AM
end
section
namespace Go.AM
open Go
set_option linter.unusedVariables false
section
variable {E : Env} {ops : Array Oper} {rid : Nat}
theorem swap_y {x y : It} (Fx : x.Foots) (Fy : y.Foots) (A : Apart x.ft y.ft) (hne : x.i ≠ y.i) {st : St} (Dx : x.Dirty st) (Hy : y.Can E ops rid (x.ap rid st)) : y.Can E ops rid st := by
  have ht : ∀ p ∈ y.g ++ y.P.rt, lk (x.ap rid st).t p.1 = some p.2 → lk st.t p.1 = some p.2 := by
    intro p hp h
    have hr := Fy.rt p hp
    rw [It.ap_t, if_neg (fun e => A.dq p.1 (by rw [Fx.d]; exact e) hr)] at h
    obtain ⟨v, h1, h2⟩ := Option.map_eq_some_iff.1 h
    rw [Dx.t p.1 v h1 fun hd => A.dt p.1 hd hr] at h2
    rw [h1, h2]
  have hs : ∀ p ∈ y.P.ro, lk (x.ap rid st).s p.1 = some p.2 → lk st.s p.1 = some p.2 := by
    intro p hp h
    have hr := Fy.ro p hp
    have hw : p.1 ∉ x.ft.wr := fun hw => A.wo _ hw hr
    rw [Fx.wr, List.mem_append] at hw
    rw [It.ap_s, lk_put_none fun h => hw (.inl h)] at h
    simp only [if_neg fun h => hw (.inr h)] at h
    obtain ⟨v, h1, h2⟩ := Option.map_eq_some_iff.1 h
    rw [Dx.s p.1 v h1 fun hd => A.dob p.1 hd hr] at h2
    rw [h1, h2]
  have hhas : ∀ n, n ∈ names y.P.put ∨ n ∈ y.P.del → (lk st.s n).isSome = (lk (x.ap rid st).s n).isSome := by
    intro n hn
    have hw : n ∉ x.ft.wr := fun hw => A.ww n hw (by rw [Fy.wr]; exact List.mem_append.2 hn)
    rw [Fx.wr, List.mem_append] at hw
    rw [It.ap_s, lk_put_none fun h => hw (.inl h)]
    simp only [if_neg fun h => hw (.inr h)]
    cases lk st.s n <;> rfl
  refine ⟨Hy.at_, fun p hp => ht p (List.mem_append_left _ hp) (Hy.gt p hp), Hy.gd, fun p hp => ?_⟩
  have hP : y.P = p := by unfold It.P; rw [hp]; rfl
  have R := Hy.ran p hp
  rw [hP] at ht hs hhas
  refine ⟨R.good, fun q hq => ht q (List.mem_append_right _ hq) (R.rt q hq), fun q hq => hs q hq (R.ro q hq), ?_⟩
  rw [← R.ok]
  refine okPk_same hhas ?_
  rw [It.ap_u]
  have : Nat.beq ((rid + 1) * 1000 + x.i) ((rid + 1) * 1000 + y.i) = false := by
    cases hb : Nat.beq ((rid + 1) * 1000 + x.i) ((rid + 1) * 1000 + y.i) with
    | false => rfl
    | true => have := Nat.eq_of_beq_eq_true hb; omega
  simp [this]
theorem swap_x {x y : It} (Fx : x.Foots) (Fy : y.Foots) (A : Apart x.ft y.ft) (hne : x.i ≠ y.i) {st : St} (Hx : x.Can E ops rid st) (Dx : x.Dirty st) : x.Can E ops rid (y.ap rid st) ∧ x.Dirty (y.ap rid st) := by
  have hky := It.ks_wr Fy st
  have ht : ∀ p ∈ x.g ++ x.P.rt, lk st.t p.1 = some p.2 → lk (y.ap rid st).t p.1 = some p.2 := by
    intro p hp h
    rw [It.ap_t, if_neg (fun e => A.dp p.1 (by rw [Fy.d]; exact e) (Fx.rt p hp)), h, Option.map_some]
    rw [TV.drop_id fun n hn hk => A.gw n (hky n hk) (Fx.tgt p hp n hn)]
  have hs : ∀ p ∈ x.P.ro, lk st.s p.1 = some p.2 → lk (y.ap rid st).s p.1 = some p.2 := by
    intro p hp h
    have hw : p.1 ∉ y.ft.wr := fun hw => A.ow _ hw (Fx.ro p hp)
    rw [Fy.wr, List.mem_append] at hw
    rw [It.ap_s, lk_put_none fun h => hw (.inl h)]
    simp only [if_neg fun h => hw (.inr h)]
    rw [h, Option.map_some, Ob.drop_id fun n hn hk => A.gw n (hky n hk) (Fx.tgo p hp n hn)]
  have hhas : ∀ n, n ∈ names x.P.put ∨ n ∈ x.P.del → (lk (y.ap rid st).s n).isSome = (lk st.s n).isSome := by
    intro n hn
    have hw : n ∉ y.ft.wr := fun hw => A.ww n (by rw [Fx.wr]; exact List.mem_append.2 hn) hw
    rw [Fy.wr, List.mem_append] at hw
    rw [It.ap_s, lk_put_none fun h => hw (.inl h)]
    simp only [if_neg fun h => hw (.inr h)]
    cases lk st.s n <;> rfl
  have hkx : x.ks (y.ap rid st) = x.ks st := by
    unfold It.ks
    rw [olds_same fun n hn => hhas n (.inl hn)]
  refine ⟨⟨Hx.at_, fun p hp => ht p (List.mem_append_left _ hp) (Hx.gt p hp), Hx.gd, fun p hp => ?_⟩, ⟨fun i v h hn => ?_, fun n o h hn => ?_⟩⟩
  · have hP : x.P = p := by unfold It.P; rw [hp]; rfl
    have R := Hx.ran p hp
    rw [hP] at ht hs hhas
    refine ⟨R.good, fun q hq => ht q (List.mem_append_right _ hq) (R.rt q hq), fun q hq => hs q hq (R.ro q hq), ?_⟩
    rw [← R.ok]
    refine okPk_same hhas ?_
    rw [It.ap_u]
    have : Nat.beq ((rid + 1) * 1000 + y.i) ((rid + 1) * 1000 + x.i) = false := by
      cases hb : Nat.beq ((rid + 1) * 1000 + y.i) ((rid + 1) * 1000 + x.i) with
      | false => rfl
      | true => have := Nat.eq_of_beq_eq_true hb; omega
    simp [this]
  · rw [hkx]
    rw [It.ap_t] at h
    split at h
    · cases h
      exact TV.drop_id fun n hn' hk => A.wv n (It.ks_wr Fx st n hk) (Fy.vt n hn')
    · obtain ⟨v0, h1, rfl⟩ := Option.map_eq_some_iff.1 h
      rw [TV.drop_comm, Dx.t i v0 h1 hn]
  · rw [hkx]
    rw [It.ap_s] at h
    split at h
    · rename_i o' hl
      cases h
      exact Ob.drop_id fun m hm hk => A.wv m (It.ks_wr Fx st m hk) (Fy.vto _ (lk_mem hl) m hm)
    · split at h
      · cases h
      · obtain ⟨v0, h1, rfl⟩ := Option.map_eq_some_iff.1 h
        rw [Ob.drop_comm, Dx.s n v0 h1 hn]
theorem swap_eq {x y : It} (Fx : x.Foots) (Fy : y.Foots) (A : Apart x.ft y.ft) (st : St) : SEq (y.ap rid (x.ap rid st)) (x.ap rid (y.ap rid st)) := by
  have hX : ∀ n, n ∈ names x.P.put ∨ n ∈ x.P.del → n ∉ names y.P.put ∧ n ∉ y.P.del := fun n hn => by
    have := A.ww n (by rw [Fx.wr]; exact List.mem_append.2 hn)
    rw [Fy.wr, List.mem_append] at this
    exact ⟨fun h => this (.inl h), fun h => this (.inr h)⟩
  have hY : ∀ n, n ∈ names y.P.put ∨ n ∈ y.P.del → n ∉ names x.P.put ∧ n ∉ x.P.del := fun n hn =>
    ⟨fun h => by have := hX n (.inl h); exact hn.elim this.1 this.2, fun h => by have := hX n (.inr h); exact hn.elim this.1 this.2⟩
  have hkx : x.ks (y.ap rid st) = x.ks st := by
    unfold It.ks
    rw [olds_same fun n hn => ?_]
    obtain ⟨h1, h2⟩ := hX n (.inl hn)
    rw [It.ap_s, lk_put_none h1]
    simp only [if_neg h2]
    cases lk st.s n <;> rfl
  have hky : y.ks (x.ap rid st) = y.ks st := by
    unfold It.ks
    rw [olds_same fun n hn => ?_]
    obtain ⟨h1, h2⟩ := hY n (.inl hn)
    rw [It.ap_s, lk_put_none h1]
    simp only [if_neg h2]
    cases lk st.s n <;> rfl
  refine ⟨fun i => ?_, fun n => ?_, fun m => ?_⟩
  · rw [It.ap_t, It.ap_t, It.ap_t, It.ap_t, hkx, hky]
    by_cases h1 : x.o.dst = some i
    · have h2 : ¬ y.o.dst = some i := fun e => A.dd i (by rw [Fx.d]; exact h1) (by rw [Fy.d]; exact e)
      rw [if_pos h1, if_neg h2, if_pos h1, Option.map_some, TV.drop_id fun n hn hk => A.vw n (It.ks_wr Fy st n hk) (Fx.vt n hn)]
    · by_cases h2 : y.o.dst = some i
      · rw [if_neg h1, if_pos h2, if_pos h2, Option.map_some, TV.drop_id fun n hn hk => A.wv n (It.ks_wr Fx st n hk) (Fy.vt n hn)]
      · rw [if_neg h1, if_neg h2, if_neg h2, if_neg h1]
        cases lk st.t i with
        | none => rfl
        | some v => simp only [Option.map_some, TV.drop_comm v]
  · rw [It.ap_s, It.ap_s, It.ap_s, It.ap_s, hkx, hky]
    by_cases hx : n ∈ names x.P.put ∨ n ∈ x.P.del
    · obtain ⟨h1, h2⟩ := hX n hx
      rw [lk_put_none h1]
      simp only [if_neg h2]
      cases hl : lk x.P.put n with
      | some o => simp only [Option.map_some]; rw [Ob.drop_id fun m hm hk => A.vw m (It.ks_wr Fy st m hk) (Fx.vto _ (lk_mem hl) m hm)]
      | none =>
        have hd : n ∈ x.P.del := hx.resolve_left fun h => by have := lk_isSome.2 h; rw [hl] at this; cases this
        simp only [if_pos hd, Option.map_none]
    · have hx1 : n ∉ names x.P.put := fun h => hx (.inl h)
      have hx2 : n ∉ x.P.del := fun h => hx (.inr h)
      rw [lk_put_none hx1]
      simp only [if_neg hx2]
      cases hl : lk y.P.put n with
      | some o => simp only [Option.map_some]; rw [Ob.drop_id fun m hm hk => A.wv m (It.ks_wr Fx st m hk) (Fy.vto _ (lk_mem hl) m hm)]
      | none =>
        simp only
        split
        · rfl
        · cases lk st.s n with
          | none => rfl
          | some v => simp only [Option.map_some, Ob.drop_comm v]
  · rw [It.ap_u, It.ap_u, It.ap_u, It.ap_u]
    cases (x.pk.isSome && Nat.beq ((rid + 1) * 1000 + x.i) m) <;> cases (y.pk.isSome && Nat.beq ((rid + 1) * 1000 + y.i) m) <;> rfl
end
end Go.AM
end
section
namespace Go.AM
open Go
set_option linter.unusedVariables false
section
variable {E : Env} {ops : Array Oper} {rid : Nat}
theorem It.ks_congr {x : It} {st st' : St} (h : SEq st st') : x.ks st' = x.ks st := by
  unfold It.ks
  rw [olds_same (st := st) (st' := st') fun n _ => by rw [h.s]]
theorem It.ap_congr {x : It} {st st' : St} (h : SEq st st') : SEq (x.ap rid st) (x.ap rid st') := by
  refine ⟨fun i => ?_, fun n => ?_, fun m => ?_⟩
  · rw [It.ap_t, It.ap_t, It.ks_congr h, h.t]
  · rw [It.ap_s, It.ap_s, It.ks_congr h, h.s]
  · rw [It.ap_u, It.ap_u, h.u]
theorem Ran.congr {uid : Nat} {st st' : St} {o : Oper} {pk : Pk} (h : SEq st st') (H : Ran E uid st o pk) : Ran E uid st' o pk :=
  ⟨H.good, fun p hp => (h.t _).trans (H.rt p hp), fun p hp => (h.s _).trans (H.ro p hp), (okPk_same (fun n _ => by rw [h.s]) (h.u _)).trans H.ok⟩
theorem It.Can.congr {x : It} {st st' : St} (h : SEq st st') (H : x.Can E ops rid st) : x.Can E ops rid st' :=
  ⟨H.at_, fun p hp => (h.t _).trans (H.gt p hp), H.gd, fun p hp => (H.ran p hp).congr h⟩
theorem It.Dirty.congr {x : It} {st st' : St} (h : SEq st st') (D : x.Dirty st) : x.Dirty st' :=
  ⟨fun i v hv hn => by rw [It.ks_congr h]; exact D.t i v ((h.t i).symm.trans hv) hn, fun n o ho hn => by rw [It.ks_congr h]; exact D.s n o ((h.s n).symm.trans ho) hn⟩
inductive Trc (E : Env) (ops : Array Oper) (rid : Nat) : St → List It → St → Prop
  | nil {st st' : St} (h : SEq st st') : Trc E ops rid st [] st'
  | cons {st : St} {x : It} {r : List It} {st' : St} (H : x.Can E ops rid st) (F : x.Foots) (D : x.Dirty st) (t : Trc E ops rid (x.ap rid st) r st') : Trc E ops rid st (x :: r) st'
theorem Trc.congr {st : St} {l : List It} {f : St} (t : Trc E ops rid st l f) : ∀ {st0 : St}, SEq st st0 → Trc E ops rid st0 l f := by
  induction t with
  | nil h => intro st0 g; exact .nil (g.symm.trans h)
  | cons H F D t ih => intro st0 g; exact .cons (H.congr g) F (D.congr g) (ih (It.ap_congr g))
theorem bubble {y : It} {L2 : List It} {f : St} : ∀ {L1 : List It} {st : St}, Trc E ops rid st (L1 ++ y :: L2) f → (∀ x ∈ L1, Apart x.ft y.ft ∧ x.i ≠ y.i) → y.Can E ops rid st ∧ y.Foots ∧ Trc E ops rid (y.ap rid st) (L1 ++ L2) f
  | [], st, t, _ => by
    cases t with
    | cons H F D t => exact ⟨H, F, t⟩
  | x :: L1, st, t, h => by
    cases t with
    | cons H F D t =>
      obtain ⟨Hy, Fy, t'⟩ := bubble t fun z hz => h z (List.mem_cons_of_mem _ hz)
      obtain ⟨A, hne⟩ := h x (List.mem_cons_self ..)
      obtain ⟨H', D'⟩ := swap_x (E := E) (ops := ops) F Fy A hne H D
      exact ⟨swap_y F Fy A hne D Hy, Fy, .cons H' F D' (t'.congr (swap_eq F Fy A st))⟩
theorem It.wanted {x : It} {st : St} (H : x.Can E ops rid st) {cx : Cx} {a : Act} {w : World} {pl : Pl} {Z : Nat → Prop} (R : Rel E.P cx st a w pl Z) : Region.wanted x.o (yielded ops a.tmps) = x.pk.isSome := by
  have hg := H.gd
  unfold Region.wanted
  cases hgu : x.o.guard with
  | none => rw [hgu] at hg; exact hg.symm
  | some p =>
    obtain ⟨j, want⟩ := p
    rw [hgu] at hg
    obtain ⟨d, gv, h1, h2, h3⟩ := hg
    have hv := H.gt (d, gv) (by rw [h2]; simp)
    rcases h3 with ⟨b, rfl, h3⟩ | ⟨rfl, h3⟩
    · have := guard_val R h1 hv
      simp only [this, ← h3]
      cases b <;> cases want <;> rfl
    · have := guard_undef R h1 hv
      simp only [this, h3]
      cases want <;> rfl
theorem edges_spec : ∀ {l : List Oper} {i : Nat}, edgesOk i l = true → ∀ (j : Nat) (o : Oper), l[j]? = some o → ∀ e ∈ o.after, Region.binds .any e = true → e.on < i + j
  | [], i, h, j, o, hj, e, he, hbi => by simp at hj
  | o0 :: r, i, h, j, o, hj, e, he, hbi => by
    simp only [edgesOk, Bool.and_eq_true, Array.all_toList] at h
    cases j with
    | zero =>
      simp at hj; subst hj
      have := Array.all_eq_true_iff_forall_mem.1 h.1 e he
      rw [hbi, Bool.not_true, Bool.false_or] at this
      have := Nat.le_of_ble_eq_true (show Nat.ble (e.on + 1) i = true from this)
      omega
    | succ j =>
      have := edges_spec h.2 j o (by simpa using hj) e he hbi
      omega
theorem getD_ft {a : Array Bool} {k : Nat} (h : a.getD k false = true) : a.getD k true = true := by
  rw [Array.getD_eq_getD_getElem?] at h ⊢
  cases hk : a[k]? with
  | none => rfl
  | some b => rw [hk] at h; exact h
theorem waitsN_spec {all : List Oper} {L : Nat → Prop} (hcl : ∀ (j : Nat) (o : Oper), all[j]? = some o → L j → ∀ e ∈ o.after.toList, Region.binds .any e = true → L e.on) :
    ∀ {n j i : Nat}, waitsN all n j i = true → (∀ o, all[j]? = some o → ∀ e ∈ o.after.toList, Region.binds .any e = true → L e.on) → L i := by
  have dir : ∀ {j i : Nat}, waitsD all j i = true → (∀ o, all[j]? = some o → ∀ e ∈ o.after.toList, Region.binds .any e = true → L e.on) → L i := by
    intro j i h he
    unfold waitsD at h
    cases ho : all[j]? with
    | none => rw [ho] at h; cases h
    | some o =>
      rw [ho] at h
      simp only [List.any_eq_true, Bool.and_eq_true] at h
      obtain ⟨e, h1, h2, h3⟩ := h
      have := Nat.eq_of_beq_eq_true h3
      exact this ▸ he o ho e h1 h2
  intro n
  induction n with
  | zero => intro j i h he; exact dir h he
  | succ n ih =>
    intro j i h he
    simp only [waitsN, Bool.or_eq_true] at h
    rcases h with h | h
    · exact dir h he
    · cases ho : all[j]? with
      | none => rw [ho] at h; cases h
      | some o =>
        rw [ho] at h
        simp only [List.any_eq_true, Bool.and_eq_true] at h
        obtain ⟨e, h1, ⟨h2, _⟩, h3⟩ := h
        exact ih h3 fun o' ho' => hcl _ o' ho' (he o ho e h1 h2)
theorem any_sound {cx : Cx} {Q : Exit → Act → World → Prop} {f : St} (hd : ∀ o ∈ ops.toList, ∀ d, o.dst = some d → d < cx.nt) (hed : edgesOk 0 ops.toList = true) (hQ : ∀ a w pl Z, Rel E.P cx f a w pl Z → Q .normal a w) :
    ∀ {fuel : Nat} {L : List It} {listed : Array Bool} {st : St} {a : Act} {w : World} {pl : Pl} {Z : Nat → Prop}, Trc E ops rid st L f → L.Pairwise (fun p q => waits ops.toList q.i p.i = true ∨ Apart p.ft q.ft) → L.Pairwise (fun p q => p.i < q.i) →
      (∀ x ∈ L, x.i < ops.size) → listed.size = ops.size → (∀ j, j < ops.size → (listed.getD j true = false ↔ ∃ x ∈ L, x.i = j)) → (∀ (j : Nat) (o : Oper), ops.toList[j]? = some o → listed.getD j true = true → ∀ e ∈ o.after.toList, Region.binds .any e = true → listed.getD e.on true = true) → L.length ≤ fuel → Rel E.P cx st a w pl Z → wpAny E.P .any ops Q fuel listed a w := by
  intro fuel
  have nil : ∀ {st : St} {a : Act} {w : World} {pl : Pl} {Z : Nat → Prop}, Trc E ops rid st [] f → Rel E.P cx st a w pl Z → Q .normal a w := by
    intro st a w pl Z t R
    cases t with
    | nil h => exact hQ _ _ _ _ (R.congr h)
  induction fuel with
  | zero =>
    intro L listed st a w pl Z t hp hi hlt hls hl hcl hf R
    have : L = [] := List.eq_nil_of_length_eq_zero (by omega)
    subst this
    refine ⟨List.eq_nil_iff_forall_not_mem.2 fun j hj => ?_, nil t R⟩
    obtain ⟨h1, o, h2, _⟩ := mem_ready.1 hj
    obtain ⟨x, hx, _⟩ := (hl j (Array.getElem?_eq_some_iff.1 h2).1).1 h1
    cases hx
  | succ fuel ih =>
    intro L listed st a w pl Z t hp hi hlt hls hl hcl hf R
    have hgetD : ∀ j, j < ops.size → listed.getD j false = listed.getD j true := by
      intro j hj
      have : j < listed.size := by omega
      simp [Array.getD_eq_getD_getElem?, this]
    refine ⟨fun hnil => ?_, fun j hj => ?_⟩
    · cases L with
      | nil => exact nil t R
      | cons x r =>
        exfalso
        have hxl := hlt x (List.mem_cons_self ..)
        have hxo : ops[x.i]? = some x.o := by cases t with | cons H F D t => exact H.at_
        have : x.i ∈ Region.ready .any ops listed := by
          refine mem_ready.2 ⟨(hl x.i hxl).2 ⟨x, List.mem_cons_self .., rfl⟩, x.o, hxo, fun e he hbi => ?_⟩
          have he' := edges_spec hed x.i x.o (by rw [Array.getElem?_toList]; exact hxo) e he hbi
          have hlt' : e.on < ops.size := by omega
          rw [hgetD _ hlt']
          cases hb : listed.getD e.on true with
          | true => rfl
          | false =>
            obtain ⟨z, hz, hze⟩ := (hl _ hlt').1 hb
            rcases List.mem_cons.1 hz with rfl | hz
            · omega
            · have := (List.pairwise_cons.1 hi).1 z hz; omega
        rw [hnil] at this
        cases this
    · obtain ⟨h1, o, h2, h3⟩ := mem_ready.1 hj
      have hjs := (Array.getElem?_eq_some_iff.1 h2).1
      obtain ⟨y, hy, rfl⟩ := (hl j hjs).1 h1
      obtain ⟨L1, L2, rfl⟩ := List.append_of_mem hy
      have hp' := List.pairwise_append.1 hp
      have hi' := List.pairwise_append.1 hi
      have hne : ∀ x ∈ L1 ++ L2, x.i ≠ y.i := by
        intro x hx
        rcases List.mem_append.1 hx with hx | hx
        · have := hi'.2.2 x hx y (List.mem_cons_self ..); omega
        · have := (List.pairwise_cons.1 hi'.2.1).1 x hx; omega
      obtain ⟨Hy, Fy, t'⟩ := bubble t fun x hx => by
        refine ⟨?_, hne x (List.mem_append_left _ hx)⟩
        refine (hp'.2.2 x hx y (List.mem_cons_self ..)).resolve_left fun hw => ?_
        have hxl := hlt x (List.mem_append_left _ hx)
        have h4 := waitsN_spec (L := fun j => listed.getD j true = true) hcl hw fun o' ho' e he hb => by
          rw [Array.getElem?_toList, h2] at ho'
          obtain rfl := Option.some.inj ho'
          exact getD_ft (h3 e (Array.mem_toList_iff.1 he) hb)
        rw [(hl x.i hxl).2 ⟨x, List.mem_append_left _ hx, rfl⟩] at h4
        cases h4
      have hyo : o = y.o := by rw [Hy.at_] at h2; exact (Option.some.inj h2).symm
      subst hyo
      have hsub : (L1 ++ L2).Sublist (L1 ++ y :: L2) := List.Sublist.append (List.Sublist.refl _) (List.sublist_cons_self _ _)
      have next : ∀ {a' : Act} {w' : World} {pl' : Pl} {Z' : Nat → Prop}, Rel E.P cx (y.ap rid st) a' w' pl' Z' → wpAny E.P .any ops Q fuel (listed.setIfInBounds y.i true) a' w' := by
        intro a' w' pl' Z' R'
        refine ih t' (hp.sublist hsub) (hi.sublist hsub) (fun x hx => hlt x (hsub.subset hx)) (by simpa using hls) (fun j hj => ?_) (fun j o' ho' hL e he hb => ?_) (by simp at hf ⊢; omega) R'
        by_cases hji : y.i = j
        · subst hji
          constructor
          · intro h
            rw [Array.getD_eq_getD_getElem?, Array.getElem?_setIfInBounds_self_of_lt (by omega)] at h
            cases h
          · rintro ⟨x, hx, e⟩; exact absurd e (hne x hx)
        · rw [getD_set_ne true hji, hl j hj]
          constructor
          · rintro ⟨x, hx, rfl⟩
            refine ⟨x, ?_, rfl⟩
            rcases List.mem_append.1 hx with hx | hx
            · exact List.mem_append_left _ hx
            · rcases List.mem_cons.1 hx with rfl | hx
              · exact absurd rfl hji
              · exact List.mem_append_right _ hx
          · rintro ⟨x, hx, rfl⟩; exact ⟨x, hsub.subset hx, rfl⟩
        · have mono : ∀ {k : Nat}, listed.getD k true = true → (listed.setIfInBounds y.i true).getD k true = true := by
            intro k hk
            by_cases hyk : y.i = k
            · subst hyk
              rw [Array.getD_eq_getD_getElem?, Array.getElem?_setIfInBounds_self_of_lt (by omega)]
              rfl
            · rw [getD_set_ne true hyk]; exact hk
          by_cases hyj : y.i = j
          · subst hyj
            rw [Array.getElem?_toList, Hy.at_] at ho'
            obtain rfl := Option.some.inj ho'
            exact mono (getD_ft (h3 e (Array.mem_toList_iff.1 he) hb))
          · rw [getD_set_ne true hyj] at hL
            exact mono (hcl j o' ho' hL e he hb)
      have hdy : ∀ d, y.o.dst = some d → d < cx.nt := hd y.o (by have := Hy.at_; rw [← Array.getElem?_toList] at this; exact List.mem_of_getElem? this)
      unfold wpOp
      simp only [Hy.at_, It.wanted Hy R]
      cases hpk : y.pk with
      | some p =>
        simp only [Option.isSome_some, if_true]
        refine .inl ((Hy.ran p hpk).wp R hdy fun a' w' pl' Z' R' => next (pl' := pl') (Z' := Z') ?_)
        unfold It.ap; rw [hpk]; exact R'
      | none =>
        simp only [Option.isSome_none, Bool.false_eq_true, if_false]
        refine next (pl' := pl) (Z' := Z) ?_
        unfold It.ap; rw [hpk]; exact R.skip hdy
end
end Go.AM
end
section
namespace Go.AM
open Go
set_option linter.unusedVariables false
section
variable {E : Env} (hE : tabB E = true) {ops : Array Oper} {rid : Nat}
theorem foots_run {i : Nat} {o : Oper} {gv : List (Nat × TV)} {st : St} {pk : Pk} (hg : ∀ p ∈ gv, p.2.tags = []) : It.Foots ⟨i, o, gv, some pk, footOf i o (gv.map (·.1)) st pk⟩ := by
  refine ⟨rfl, rfl, fun p hp => ?_, fun p hp => ?_, rfl, fun p hp n hn => ?_, fun p hp n hn => ?_, fun n hn => ?_, fun p hp n hn => ?_⟩
  · rcases List.mem_append.1 hp with h | h
    · exact List.mem_append_left _ (List.mem_map.2 ⟨p, h, rfl⟩)
    · exact List.mem_append_right _ (List.mem_map.2 ⟨p, h, rfl⟩)
  · exact List.mem_map.2 ⟨p, hp, rfl⟩
  · rcases List.mem_append.1 hp with h | h
    · rw [hg p h] at hn; cases hn
    · exact List.mem_append_left _ (List.mem_flatMap.2 ⟨p, h, hn⟩)
  · exact List.mem_append_right _ (List.mem_flatMap.2 ⟨p, hp, hn⟩)
  · exact List.mem_append_left _ hn
  · exact List.mem_append_right _ (List.mem_flatMap.2 ⟨p, hp, hn⟩)
theorem dirty_run {i : Nat} {o : Oper} {gv : List (Nat × TV)} {st : St} {pk : Pk} : It.Dirty ⟨i, o, gv, some pk, footOf i o (gv.map (·.1)) st pk⟩ st :=
  ⟨fun j v hv hn => dirtyT_spec hv hn, fun n o ho hn => dirtyO_spec ho hn⟩
theorem foots_skip {i : Nat} {o : Oper} {d : Nat} {b : Bool} : It.Foots ⟨i, o, [(d, .one (.prim (.bool b)))], none, ⟨i, o.dst, [d], [], [], [], [], [], []⟩⟩ := by
  refine ⟨rfl, rfl, fun p hp => ?_, fun p hp => ?_, rfl, fun p hp n hn => ?_, fun p hp n hn => ?_, fun n hn => ?_, fun p hp n hn => ?_⟩
  · simp [It.P] at hp; subst hp; simp
  · simp [It.P] at hp
  · simp [It.P] at hp; subst hp; simp [TV.tags, AV.tags, tags1] at hn
  · simp [It.P] at hp
  · simp [It.P, TV.tags, AV.tags, tags1] at hn
  · simp [It.P] at hp
theorem dirty_skip {i : Nat} {o : Oper} {d : Nat} {b : Bool} {st : St} : It.Dirty ⟨i, o, [(d, .one (.prim (.bool b)))], none, ⟨i, o.dst, [d], [], [], [], [], [], []⟩⟩ st :=
  ⟨fun j v hv hn => TV.drop_nil v, fun n o ho hn => Ob.drop_nil o⟩
theorem foots_skip' {i : Nat} {o : Oper} {d : Nat} : It.Foots ⟨i, o, [(d, .tup [])], none, ⟨i, o.dst, [d], [], [], [], [], [], []⟩⟩ := by
  refine ⟨rfl, rfl, fun p hp => ?_, fun p hp => ?_, rfl, fun p hp n hn => ?_, fun p hp n hn => ?_, fun n hn => ?_, fun p hp n hn => ?_⟩
  · simp [It.P] at hp; subst hp; simp
  · simp [It.P] at hp
  · simp [It.P] at hp; subst hp; simp [TV.tags, AV.tags, tags1] at hn
  · simp [It.P] at hp
  · simp [It.P, TV.tags, AV.tags, tags1] at hn
  · simp [It.P] at hp
theorem dirty_skip' {i : Nat} {o : Oper} {d : Nat} {st : St} : It.Dirty ⟨i, o, [(d, .tup [])], none, ⟨i, o.dst, [d], [], [], [], [], [], []⟩⟩ st :=
  ⟨fun j v hv hn => TV.drop_nil v, fun n o ho hn => Ob.drop_nil o⟩
include hE in
theorem ops_trace : ∀ {r : List Oper} {i : Nat} {st : St} {k : St → List Foot → Prop}, ops.toList.drop i = r → vcOps E ops.toList rid r i st k →
    ∃ (its : List It) (st' : St) (fs : List Foot), Trc E ops rid st its st' ∧ k st' fs ∧ its.map (·.ft) = fs ∧ its.map (·.i) = List.range' i r.length
  | [], i, st, k, hr, h => ⟨[], st, [], .nil (SEq.refl st), h, rfl, rfl⟩
  | o :: r, i, st, k, hr, h => by
    have hi : ops[i]? = some o := by
      have : ops.toList[i]? = some o := by rw [← List.head?_drop, hr]; rfl
      rwa [Array.getElem?_toList] at this
    have hr' : ops.toList.drop (i + 1) = r := by rw [← List.tail_drop, hr]; rfl
    rw [List.length_cons, List.range'_succ]
    have run : ∀ (st0 st : St) (gv : List (Nat × TV)), SEq st st0 → RdT gv st → (∀ p ∈ gv, p.2.tags = []) →
        (match o.guard with
          | none => True
          | some (j, want) => ∃ d v, guardD ops.toList j = some d ∧ gv = [(d, v)] ∧ ((∃ b, v = .one (.prim (.bool b)) ∧ (b == want) = true) ∨ (v = .tup [] ∧ some () = none))) →
        stepK E ((rid + 1) * 1000 + i) st o (fun st' pk => footK i o (gv.map (·.1)) st pk fun ft => vcOps E ops.toList rid r (i + 1) st' fun st'' fs => k st'' (ft :: fs)) →
        ∃ (its : List It) (st' : St) (fs : List Foot), Trc E ops rid st0 its st' ∧ k st' fs ∧ its.map (·.ft) = fs ∧ its.map (·.i) = i :: List.range' (i + 1) r.length := by
      intro st0 st gv hs hgv hgt hgd h
      obtain ⟨pk, st1, h, H, hs1⟩ := stepK_sound hE h
      rw [footK_eq] at h
      obtain ⟨its, st', fs, t, hk, e1, e2⟩ := ops_trace hr' h
      refine ⟨⟨i, o, gv, some pk, footOf i o (gv.map (·.1)) st pk⟩ :: its, st', _, Trc.congr (.cons ⟨hi, hgv, ?_, fun p hp => ?_⟩ (foots_run hgt) dirty_run ?_) hs, hk, by simp [e1], by simp [e2]⟩
      · show (match o.guard with | none => _ | some (j, want) => _)
        cases hgu : o.guard with
        | none => rfl
        | some q =>
          obtain ⟨j, want⟩ := q
          rw [hgu] at hgd
          obtain ⟨d, v, h1, h2, h3⟩ := hgd
          exact ⟨d, v, h1, h2, h3.imp_right fun h => absurd h.2 (by simp)⟩
      · cases hp; exact H
      · exact t.congr hs1.symm
    have skip : ∀ (st0 st : St) (d j : Nat) (b want : Bool), SEq st st0 → lk st.t d = some (.one (.prim (.bool b))) → o.guard = some (j, want) → guardD ops.toList j = some d → (b == want) = false →
        setK st o.dst (.tup []) (fun st => vcOps E ops.toList rid r (i + 1) st fun st'' fs => k st'' (⟨i, o.dst, [d], [], [], [], [], [], []⟩ :: fs)) →
        ∃ (its : List It) (st' : St) (fs : List Foot), Trc E ops rid st0 its st' ∧ k st' fs ∧ its.map (·.ft) = fs ∧ its.map (·.i) = i :: List.range' (i + 1) r.length := by
      intro st0 st d j b want hs hv hgu hgd hbw h
      obtain ⟨its, st', fs, t, hk, e1, e2⟩ := ops_trace hr' (setK_eq h)
      refine ⟨⟨i, o, [(d, .one (.prim (.bool b)))], none, ⟨i, o.dst, [d], [], [], [], [], [], []⟩⟩ :: its, st', _, Trc.congr (.cons ⟨hi, fun p hp => by simp at hp; subst hp; exact hv, ?_, fun p hp => by cases hp⟩ foots_skip dirty_skip t) hs, hk, by simp [e1], by simp [e2]⟩
      show (match o.guard with | none => _ | some (j, want) => _)
      rw [hgu]
      exact ⟨d, _, hgd, rfl, .inl ⟨b, rfl, hbw⟩⟩
    simp only [vcOps] at h
    split at h
    · rename_i hg
      exact run st st [] (SEq.refl st) RdT.nil (by simp) (by rw [hg]; trivial) h
    · rename_i j want hg
      split at h
      · rename_i d hgd
        split at h
        · rename_i b hv
          have hs : ∀ b', b = b' → SEq ⟨(d, .one (.prim (.bool b'))) :: st.t, st.s, st.u⟩ st := fun b' e => (set_same (by rw [hv, e])).symm
          have hl : ∀ b', lk (putT st (some d) (.one (.prim (.bool b')))).t d = some (.one (.prim (.bool b'))) := fun b' => by simp [putT, lk_cons]
          cases want <;> cases b <;> simp only [ifB] at h
          · exact run st _ [(d, .one (.prim (.bool false)))] (hs false rfl) (fun p hp => by simp at hp; subst hp; exact hl false) (by simp [TV.tags, AV.tags, tags1]) (by rw [hg]; exact ⟨d, _, hgd, rfl, .inl ⟨false, rfl, rfl⟩⟩) (setK_eq h)
          · exact skip st _ d j true false (hs true rfl) (hl true) hg hgd rfl (setK_eq h)
          · exact skip st _ d j false true (hs false rfl) (hl false) hg hgd rfl (setK_eq h)
          · exact run st _ [(d, .one (.prim (.bool true)))] (hs true rfl) (fun p hp => by simp at hp; subst hp; exact hl true) (by simp [TV.tags, AV.tags, tags1]) (by rw [hg]; exact ⟨d, _, hgd, rfl, .inl ⟨true, rfl, rfl⟩⟩) (setK_eq h)
        · rename_i hv
          obtain ⟨its, st', fs, t, hk, e1, e2⟩ := ops_trace hr' (setK_eq h)
          refine ⟨⟨i, o, [(d, .tup [])], none, ⟨i, o.dst, [d], [], [], [], [], [], []⟩⟩ :: its, st', _, .cons ⟨hi, fun p hp => by simp at hp; subst hp; exact hv, ?_, fun p hp => by cases hp⟩ foots_skip' dirty_skip' t, hk, by simp [e1], by simp [e2]⟩
          show (match o.guard with | none => _ | some (j, want) => _)
          rw [hg]
          exact ⟨d, _, hgd, rfl, .inr ⟨rfl, rfl⟩⟩
        · exact h.elim
      · exact h.elim
theorem drawOk_spec {all : List Oper} : ∀ {its : List It}, (∀ x ∈ its, x.ft.i = x.i) → drawOk all (its.map (·.ft)) = true → its.Pairwise fun p q => waits all q.i p.i = true ∨ Apart p.ft q.ft
  | [], _, _ => .nil
  | x :: r, hx, h => by
    simp only [List.map_cons, drawOk, Bool.and_eq_true, List.all_eq_true, Bool.or_eq_true] at h
    refine .cons (fun y hy => ?_) (drawOk_spec (fun z hz => hx z (List.mem_cons_of_mem _ hz)) h.2)
    have := h.1 y.ft (List.mem_map.2 ⟨y, hy, rfl⟩)
    rw [hx x (List.mem_cons_self ..), hx y (List.mem_cons_of_mem _ hy)] at this
    rcases this with h | h | h
    · exact .inl (by unfold waits; simp only [waitsN, h, Bool.true_or])
    · exact .inr (apart_spec h)
    · exact .inl h
theorem Trc.foots {st : St} {l : List It} {f : St} (t : Trc E ops rid st l f) : ∀ x ∈ l, x.Foots := by
  induction t with
  | nil h => intro x hx; cases hx
  | cons H F D t ih =>
    intro x hx
    rcases List.mem_cons.1 hx with rfl | hx
    · exact F
    · exact ih x hx
theorem Rel.drawn {P : Program} {cx : Cx} {st : St} {a : Act} {w : World} {pl : Pl} {Z : Nat → Prop} (R : Rel P cx st a w pl Z) (n : Nat) : Rel P cx st a { w with drawn := n } pl Z := by
  have hA0 : ∀ {v : AV} {x : Value}, A0 P st pl Z w v x → A0 P st pl Z { w with drawn := n } v x := by
    intro v x h
    cases v <;> simp only [A0] at h ⊢ <;> first
      | exact h
      | exact fun k => (h k).mono (fun _ h => h) fun _ _ => rfl
  have hAr : ∀ {v : AV} {x : Value}, Ar P st pl Z w v x → Ar P st pl Z { w with drawn := n } v x := by
    intro v x h
    by_cases hv : noFn v = true
    · have e : ∀ w, Ar P st pl Z w v x = A0 P st pl Z w v x := fun w => by cases v <;> first | rfl | cases hv
      rw [e] at h ⊢
      exact hA0 h
    · cases v with
      | fn f caps => obtain ⟨arr, h1, h2, h3⟩ := h; exact ⟨arr, h1, h2, fun k av y hk hy => hA0 (h3 k av y hk hy)⟩
      | _ => simp [noFn] at hv
  have hArs : ∀ {v : List AV} {x : List Value}, Ars P st pl Z w v x → Ars P st pl Z { w with drawn := n } v x := fun h => ⟨h.1, fun k av y hk hy => hAr (h.2 k av y hk hy)⟩
  refine ⟨R.tsz, R.df, fun i v hv => ?_, fun m o ho => ?_, R.nd, R.dj, R.lt, R.zlt, R.z0, ⟨R.fr.os, R.fr.tape, R.fr.output, R.fr.size, R.fr.blk, R.fr.iob⟩, R.io, R.ioa, R.ut, R.us, R.u0, R.gl.mono (fun _ h => h) fun _ _ => rfl⟩
  · obtain ⟨x, h1, h2⟩ := R.tmp i v hv
    refine ⟨x, h1, ?_⟩
    cases v with
    | one v => exact hAr h2
    | agg cs => obtain ⟨xs, e, h⟩ := h2; exact ⟨xs, e, hArs h⟩
    | tup vs => obtain ⟨xs, e, e2, h⟩ := h2; exact ⟨xs, e, e2, fun k a cs y hk hy => let ⟨ys, h4, h5⟩ := h k a cs y hk hy; ⟨ys, hArs h4, h5⟩⟩
  · have := R.obj m o ho
    cases o with
    | box row => obtain ⟨h1, c, ty, h2, h3, h4⟩ := this; exact ⟨h1, c, ty, h2, h3, fun k av y hk hy => hAr (h4 k av y hk hy)⟩
    | arr t rows p => exact Ow.mono this (fun _ h => h) (fun _ _ => rfl) (fun _ _ => rfl)
include hE in
theorem draw_sound {cx : Cx} {Q : Exit → Act → World → Prop} (hm : E.P.follows .mixedOrders = true) (hd : ∀ o ∈ ops.toList, ∀ d, o.dst = some d → d < cx.nt) {st : St} {k : St → Prop}
    (h : vcOps E ops.toList rid ops.toList 0 st fun st' fs => match edgesOk 0 ops.toList && drawOk ops.toList fs with | true => k st' | false => False)
    {a : Act} {w : World} {pl : Pl} {Z : Nat → Prop} (R : Rel E.P cx st a w pl Z) (hQ : ∀ st' a' w' pl' Z', k st' → Rel E.P cx st' a' w' pl' Z' → Q .normal a' w') : (Code.region rid ops true).wp E.P Q a w := by
  obtain ⟨its, st', fs, t, hk, e1, e2⟩ := ops_trace hE (r := ops.toList) (i := 0) rfl h
  split at hk
  · rename_i hh
    simp only [Bool.and_eq_true] at hh
    have hF := t.foots
    have hlen : its.length = ops.size := by have := congrArg List.length e2; simpa using this
    have hpi : its.Pairwise fun p q => p.i < q.i := by
      have : (its.map (·.i)).Pairwise (· < ·) := by rw [e2]; exact List.pairwise_lt_range'
      exact List.pairwise_map.1 this
    refine wp_region_any hm (any_sound (f := st') hd hh.1 (fun a w pl Z R => hQ _ _ _ pl Z hk R) t (drawOk_spec (fun x hx => (hF x hx).i) (by rw [e1]; exact hh.2)) hpi (fun x hx => ?_) (by simp) (fun j hj => ?_) (fun j o ho hL => ?_) (by omega) (R.drawn _))
    · have : x.i ∈ its.map (·.i) := List.mem_map.2 ⟨x, hx, rfl⟩
      rw [e2] at this
      simpa using List.mem_range'_1.1 this
    · have h1 : (Array.replicate ops.size false).getD j true = false := by simp [Array.getD_eq_getD_getElem?, hj]
      refine ⟨fun _ => ?_, fun _ => h1⟩
      have : j ∈ its.map (·.i) := by rw [e2]; exact List.mem_range'_1.2 ⟨Nat.zero_le _, by simpa using hj⟩
      obtain ⟨x, hx, e⟩ := List.mem_map.1 this
      exact ⟨x, hx, e⟩
    · have hj : j < ops.size := by
        rw [Array.getElem?_toList] at ho
        exact (Array.getElem?_eq_some_iff.1 ho).1
      have h1 : (Array.replicate ops.size false).getD j true = false := by simp [Array.getD_eq_getD_getElem?, hj]
      rw [h1] at hL; cases hL
  · exact hk.elim
end
end Go.AM
end
section
namespace Go.AM
open Go
set_option linter.unusedVariables false
theorem remN_mem {m n : Nat} : ∀ {l : List Nat}, n ∈ remN m l ↔ n ∈ l ∧ n ≠ m
  | [] => by simp [remN]
  | a :: r => by
    simp only [remN]
    cases h : Nat.beq a m with
    | true =>
      have := Nat.eq_of_beq_eq_true h
      subst this
      simp only [cond_true, remN_mem (l := r), List.mem_cons]
      constructor
      · rintro ⟨h1, h2⟩; exact ⟨.inr h1, h2⟩
      · rintro ⟨h1 | h1, h2⟩
        · exact absurd h1 h2
        · exact ⟨h1, h2⟩
    | false =>
      have hne : a ≠ m := fun e => by rw [e, Nat.beq_refl] at h; cases h
      simp only [cond_false, List.mem_cons, remN_mem (l := r)]
      constructor
      · rintro (rfl | ⟨h1, h2⟩)
        · exact ⟨.inl rfl, hne⟩
        · exact ⟨.inr h1, h2⟩
      · rintro ⟨h1 | h1, h2⟩
        · exact .inl h1
        · exact .inr ⟨h1, h2⟩
section
variable {P : Program} {cx : Cx} {st : St} {a : Act} {w : World} {pl : Pl} {Z : Nat → Prop} {m t : Nat} {rows : List (List AV)}
theorem frzC_ar (R : Rel P cx st a w pl Z) (hm : lk st.s m = some (.arr t rows false)) {st' : St} (hs : st'.s = (without [m] st.s).map fun p => (p.1, p.2.frz m t rows)) {v : AV} {x : Value} (h : A0 P st pl Z w v x) :
    A0 P st' pl (fun b => Z b ∨ b ∈ pl.own m) w (frzC m t rows v) x := by
  have hO : ∀ n o, st'.O n = some o → n ≠ m ∧ ∃ o0, st.O n = some o0 ∧ o = o0.frz m t rows := by
    intro n o ho
    unfold St.O at ho ⊢
    rw [hs, lk_map, lk_without] at ho
    split at ho
    · cases ho
    · rename_i hn
      obtain ⟨o0, h1, h2⟩ := Option.map_eq_some_iff.1 ho
      exact ⟨by simpa using hn, o0, h1, h2.symm⟩
  have hhas : st.has m := by unfold St.has St.O; rw [hm]; rfl
  have hsup : ∀ ns b, Sup pl Z ns b → Sup pl (fun b => Z b ∨ b ∈ pl.own m) (remN m ns) b := by
    rintro ns b (h | ⟨n, hn, h⟩)
    · exact .inl (.inl h)
    · by_cases e : n = m
      · subst e; exact .inl (.inr h)
      · exact .inr ⟨n, remN_mem.2 ⟨hn, e⟩, h⟩
  have hall : ∀ ns : List Nat, (∀ n ∈ remN m ns, st'.has n) → ∀ n ∈ ns, st.has n := by
    intro ns hn n hmem
    by_cases e : n = m
    · subst e; exact hhas
    · obtain ⟨o, ho⟩ := Option.isSome_iff_exists.1 (hn n (remN_mem.2 ⟨hmem, e⟩))
      obtain ⟨_, o0, h1, _⟩ := hO n o ho
      unfold St.has; rw [h1]; rfl
  cases v with
  | undef => trivial
  | na => trivial
  | prim p => exact h
  | emp t => exact h
  | sl t r => exact h
  | fn f c => exact h
  | fr ns t' r =>
    have h : (∀ n ∈ ns, st.has n) → Rd P w (Sup pl Z ns) (.sl t' r) x := h
    exact fun hn => (h (hall ns hn)).mono (hsup ns) fun _ _ => rfl
  | fp ns row o =>
    have h : (∀ n ∈ ns, st.has n) → Rd P w (Sup pl Z ns) (.fp [] row o) x := h
    exact fun hn => (h (hall ns hn)).mono (hsup ns) fun _ _ => rfl
  | ref n =>
    simp only [frzC]
    cases hb : Nat.beq n m with
    | true =>
      have := Nat.eq_of_beq_eq_true hb
      subst this
      have hx := h t rows false hm
      subst hx
      intro _
      have := R.obj n _ hm
      exact Ow.rd this (fun b hb => .inl (.inr hb)) (fun b hb => .inl (.inl hb))
    | false =>
      intro t' rows' p' ho
      obtain ⟨_, o0, h1, h2⟩ := hO n _ ho
      cases o0 with
      | box row => simp [Ob.frz] at h2
      | arr t0 r0 p0 => exact h t0 r0 p0 h1
  | ptr n i off =>
    simp only [frzC]
    cases hb : Nat.beq n m with
    | true => trivial
    | false =>
      intro o ho
      obtain ⟨_, o0, h1, h2⟩ := hO n _ ho
      rw [h o0 h1, h2]
      cases o0 <;> rfl
theorem frzV_ar (R : Rel P cx st a w pl Z) (hm : lk st.s m = some (.arr t rows false)) {st' : St} (hs : st'.s = (without [m] st.s).map fun p => (p.1, p.2.frz m t rows)) {v : AV} {x : Value} (h : Ar P st pl Z w v x) :
    Ar P st' pl (fun b => Z b ∨ b ∈ pl.own m) w (frzV m t rows v) x := by
  cases v with
  | fn f caps =>
    obtain ⟨arr, h1, h2, h3⟩ := h
    refine ⟨arr, h1, by simp [h2], fun k av y hk hy => ?_⟩
    rw [List.getElem?_map] at hk
    obtain ⟨av0, h4, rfl⟩ := Option.map_eq_some_iff.1 hk
    exact frzC_ar R hm hs (h3 k av0 y h4 hy)
  | undef => trivial
  | na => trivial
  | prim p => exact frzC_ar R hm hs (v := .prim p) h
  | emp t => exact frzC_ar R hm hs (v := .emp t) h
  | sl t r => exact h.elim
  | fr ns t' r => exact frzC_ar R hm hs (v := .fr ns t' r) h
  | fp ns r o => exact frzC_ar R hm hs (v := .fp ns r o) h
  | ref n =>
    have := frzC_ar R hm hs (v := .ref n) h
    simp only [frzV, frzC] at this ⊢
    cases hb : Nat.beq n m <;> rw [hb] at this <;> exact this
  | ptr n i off =>
    have := frzC_ar R hm hs (v := .ptr n i off) h
    simp only [frzV, frzC] at this ⊢
    cases hb : Nat.beq n m <;> rw [hb] at this <;> exact this
theorem frzV_ars (R : Rel P cx st a w pl Z) (hm : lk st.s m = some (.arr t rows false)) {st' : St} (hs : st'.s = (without [m] st.s).map fun p => (p.1, p.2.frz m t rows)) {cs : List AV} {xs : List Value} (h : Ars P st pl Z w cs xs) :
    Ars P st' pl (fun b => Z b ∨ b ∈ pl.own m) w (cs.map (frzV m t rows)) xs := by
  refine ⟨by rw [h.1, List.length_map], fun k av y hk hy => ?_⟩
  rw [List.getElem?_map] at hk
  obtain ⟨av0, h4, rfl⟩ := Option.map_eq_some_iff.1 hk
  exact frzV_ar R hm hs (h.2 k av0 y h4 hy)
theorem frzC_inU {u : List Nat} {v : AV} (h : v.inU u = true) (hf : noFn v = true) : (frzC m t rows v).inU u = true := by
  cases v with
  | ref n => simp only [frzC]; cases Nat.beq n m <;> first | exact h | rfl
  | ptr n i off => simp only [frzC]; cases Nat.beq n m <;> first | exact h | rfl
  | fr ns t' r => simp only [frzC, AV.inU, List.all_eq_true] at h ⊢; exact fun n hn => h n (remN_mem.1 hn).1
  | fp ns r o => simp only [frzC, AV.inU, List.all_eq_true] at h ⊢; exact fun n hn => h n (remN_mem.1 hn).1
  | fn f c => cases hf
  | _ => rfl
theorem frzC_noFn {v : AV} (hf : noFn v = true) : noFn (frzC m t rows v) = true := by
  cases v with
  | ref n => simp only [frzC]; cases Nat.beq n m <;> rfl
  | ptr n i off => simp only [frzC]; cases Nat.beq n m <;> rfl
  | fn f c => cases hf
  | _ => rfl
theorem inU_fn {u : List Nat} {f : Nat} {caps : List AV} : (AV.fn f caps).inU u = true ↔ ∀ a ∈ caps, a.inU u = true ∧ noFn a = true := by
  refine ⟨inU_cap, fun h => ?_⟩
  simp only [AV.inU, List.all_eq_true]
  intro a ha
  obtain ⟨h1, h2⟩ := h a ha
  cases a <;> first | (cases h2; done) | exact h1 | rfl
theorem frzV_inU {u : List Nat} {v : AV} (h : v.inU u = true) : (frzV m t rows v).inU u = true := by
  cases v with
  | fn f c =>
    simp only [frzV]
    rw [inU_fn] at h ⊢
    intro a ha
    obtain ⟨b, hb, rfl⟩ := List.mem_map.1 ha
    exact ⟨frzC_inU (h b hb).1 (h b hb).2, frzC_noFn (h b hb).2⟩
  | _ => exact frzC_inU (m := m) (t := t) (rows := rows) h rfl
theorem frzV_na {v : AV} : (frzV m t rows v).isNa = v.isNa := by
  cases v with
  | ref n => simp only [frzV, frzC]; cases Nat.beq n m <;> rfl
  | ptr n i off => simp only [frzV, frzC]; cases Nat.beq n m <;> rfl
  | _ => rfl
theorem Rel.frz (R : Rel P cx st a w pl Z) (hm : lk st.s m = some (.arr t rows false)) :
    Rel P cx ⟨st.t.map fun p => (p.1, p.2.frz m t rows), (without [m] st.s).map fun p => (p.1, p.2.frz m t rows), st.u⟩ a w pl (fun b => Z b ∨ b ∈ pl.own m) := by
  have hs : (⟨st.t.map fun p => (p.1, p.2.frz m t rows), (without [m] st.s).map fun p => (p.1, p.2.frz m t rows), st.u⟩ : St).s = (without [m] st.s).map fun p => (p.1, p.2.frz m t rows) := rfl
  have hO : ∀ n o, lk ((without [m] st.s).map fun p => (p.1, p.2.frz m t rows)) n = some o → n ≠ m ∧ ∃ o0, lk st.s n = some o0 ∧ o = o0.frz m t rows := by
    intro n o ho
    rw [lk_map, lk_without] at ho
    split at ho
    · cases ho
    · rename_i hn
      obtain ⟨o0, h1, h2⟩ := Option.map_eq_some_iff.1 ho
      exact ⟨by simpa using hn, o0, h1, h2.symm⟩
  have hhas : st.has m := by unfold St.has St.O; rw [hm]; rfl
  have hh : ∀ n, (⟨st.t.map fun p => (p.1, p.2.frz m t rows), (without [m] st.s).map fun p => (p.1, p.2.frz m t rows), st.u⟩ : St).has n → n ≠ m ∧ st.has n := by
    intro n hn
    obtain ⟨o, ho⟩ := Option.isSome_iff_exists.1 hn
    obtain ⟨h1, o0, h2, _⟩ := hO n o ho
    exact ⟨h1, by unfold St.has St.O; rw [h2]; rfl⟩
  have hTr : ∀ {v : TV} {x : Value}, Tr P st pl Z w v x → Tr P ⟨st.t.map fun p => (p.1, p.2.frz m t rows), (without [m] st.s).map fun p => (p.1, p.2.frz m t rows), st.u⟩ pl (fun b => Z b ∨ b ∈ pl.own m) w (v.frz m t rows) x := by
    intro v x h
    cases v with
    | one v => exact frzV_ar R hm hs h
    | agg cs => obtain ⟨xs, h1, h2⟩ := h; exact ⟨xs, h1, frzV_ars R hm hs h2⟩
    | tup vs =>
      obtain ⟨xs, h1, h2, h3⟩ := h
      refine ⟨xs, h1, by simp [h2], fun k ag cs y hk hy => ?_⟩
      rw [List.getElem?_map] at hk
      obtain ⟨p, h4, h5⟩ := Option.map_eq_some_iff.1 hk
      simp only [Prod.mk.injEq] at h5
      obtain ⟨rfl, rfl⟩ := h5
      obtain ⟨ys, h6, h7⟩ := h3 k p.1 p.2 y h4 hy
      exact ⟨ys, frzV_ars R hm hs h6, h7⟩
  have hTU : ∀ {v : TV}, v.inU st.u = true → (v.frz m t rows).inU st.u = true := by
    intro v h
    cases v with
    | one v => exact frzV_inU h
    | agg cs => simp only [TV.frz, TV.inU, List.all_eq_true, List.mem_map] at h ⊢; rintro a ⟨b, hb, rfl⟩; exact frzV_inU (h b hb)
    | tup vs =>
      simp only [TV.frz, TV.inU, List.all_eq_true, List.mem_map] at h ⊢
      rintro a ⟨p, hp, rfl⟩ b hb
      obtain ⟨c, hc, rfl⟩ := List.mem_map.1 hb
      exact frzV_inU (h p hp c hc)
  refine ⟨R.tsz, R.df, fun i v hv => ?_, fun n o ho => ?_, fun n hn => R.nd n (hh n hn).2, fun n n' hn hn' => R.dj n n' (hh n hn).2 (hh n' hn').2, fun n hn b hb => ?_, fun b hb => ?_, fun b hb => .inl (R.z0 b hb), R.fr, fun i hi n row hr had => ?_, fun i hi n t' rows' p' hr => ?_, fun i v hv => ?_, fun n o ho => ?_, fun i hi => ⟨(R.u0 i hi).1, fun hn => (R.u0 i hi).2 (hh 63 hn).2⟩, R.gl.mono (fun b h => .inl h) fun _ _ => rfl⟩
  · rw [lk_map] at hv
    obtain ⟨v0, h1, rfl⟩ := Option.map_eq_some_iff.1 hv
    obtain ⟨x, h2, h3⟩ := R.tmp i v0 h1
    exact ⟨x, h2, hTr h3⟩
  · obtain ⟨hne, o0, h1, rfl⟩ := hO n o ho
    have h2 := R.obj n o0 h1
    cases o0 with
    | box row =>
      obtain ⟨g1, c, ty, g2, g3, g4⟩ := h2
      refine ⟨g1, c, ty, g2, by simpa using g3, fun k av y hk hy => ?_⟩
      rw [List.getElem?_map] at hk
      obtain ⟨av0, h4, rfl⟩ := Option.map_eq_some_iff.1 hk
      exact frzV_ar R hm hs (g4 k av0 y h4 hy)
    | arr t0 r0 p0 => exact Ow.mono h2 (fun b hb => .inl hb) (fun _ _ => rfl) (fun _ _ => rfl)
  · obtain ⟨hne, hn⟩ := hh n hn
    obtain ⟨h1, h2, h3⟩ := R.lt n hn b hb
    exact ⟨h1, fun hz => hz.elim h2 (R.dj n m hn hhas hne b hb), h3⟩
  · rcases hb with hb | hb
    · exact R.zlt b hb
    · obtain ⟨h1, h2, h3⟩ := R.lt m hhas b hb
      have hne : ∀ i, cx.io = some i → b ≠ i.b := fun i hi e => R.ioa i hi m t rows false hm (e ▸ hb)
      refine ⟨h1, ?_, hne⟩
      rcases h3 with h | ⟨i, hi, e⟩ | h
      · exact .inr (.inl h)
      · exact absurd e (hne i hi)
      · exact .inr (.inr h)
  · obtain ⟨_, o0, h1, h2⟩ := hO n _ hr
    cases o0 with
    | arr t0 r0 p0 => simp [Ob.frz] at h2
    | box row0 =>
      simp only [Ob.frz, Ob.box.injEq] at h2
      obtain ⟨g1, g2⟩ := R.io i hi n row0 h1 had
      refine ⟨g1, ?_⟩
      rw [h2, ← g2, List.map_map]
      exact List.map_congr_left fun av _ => by simp [frzV_na]
  · obtain ⟨_, o0, h1, h2⟩ := hO n _ hr
    cases o0 with
    | box row => simp [Ob.frz] at h2
    | arr t0 r0 p0 => exact R.ioa i hi n t0 r0 p0 h1
  · rw [lk_map] at hv
    obtain ⟨v0, h1, rfl⟩ := Option.map_eq_some_iff.1 hv
    exact hTU (R.ut i v0 h1)
  · obtain ⟨_, o0, h1, rfl⟩ := hO n o ho
    obtain ⟨h2, h3⟩ := R.us n o0 h1
    refine ⟨h2, ?_⟩
    cases o0 with
    | arr => rfl
    | box row => simp only [Ob.frz, Ob.inU, List.all_eq_true, List.mem_map] at h3 ⊢; rintro a ⟨b, hb, rfl⟩; exact frzV_inU (h3 b hb)
theorem frzs_sound : ∀ {ms : List Nat} {st : St} {Z : Nat → Prop} {k : St → Prop}, frzs ms st k → Rel P cx st a w pl Z → ∃ st' Z', k st' ∧ Rel P cx st' a w pl Z'
  | [], st, Z, k, h, R => ⟨st, Z, h, R⟩
  | m :: r, st, Z, k, h, R => by
    simp only [frzs] at h
    split at h
    · rename_i t rows hm
      obtain ⟨t0, s0, u⟩ := st
      simp only [fTs_eq, fOs_eq, mapR_eq, withoutR_eq] at h
      exact frzs_sound h (R.frz hm)
    · exact frzs_sound h R
    · exact h.elim
theorem frzK_sound {E : Env} {rid : Nat} {st : St} {Z : Nat → Prop} {k : St → Prop} (h : frzK E rid st k) (R : Rel P cx st a w pl Z) : ∃ st' Z', k st' ∧ Rel P cx st' a w pl Z' := by
  unfold frzK at h
  split at h
  · exact ⟨st, Z, h, R⟩
  · exact frzs_sound h R
end
end Go.AM
end
section
namespace Go.AM
open Go
set_option linter.unusedVariables false
def dstsOk (nt : Nat) (ops : Array Oper) : Bool := ops.toList.all fun o => match o.dst with
  | some d => Nat.blt d nt
  | none => true
def codeOk (nt : Nat) : Code → Bool
  | .region _ ops _ => dstsOk nt ops
  | .seq a b => codeOk nt a && codeOk nt b
  | .cond _ a b => codeOk nt a && codeOk nt b
  | .block _ c => codeOk nt c
  | .loop c => codeOk nt c
  | _ => true
theorem dstsOk_spec {nt : Nat} {ops : Array Oper} (h : dstsOk nt ops = true) : ∀ o ∈ ops.toList, ∀ d, o.dst = some d → d < nt := by
  intro o ho d hd
  have := List.all_eq_true.1 h o ho
  rw [hd] at this
  exact Nat.le_of_ble_eq_true this
def QOf (P : Program) (cx : Cx) (Q : Ex → St → Prop) : Exit → Act → World → Prop
  | .normal, a, w => ∃ st pl Z, Q .normal st ∧ Rel P cx st a w pl Z
  | .exit id, a, w => ∃ st pl Z, Q (.exit id) st ∧ Rel P cx st a w pl Z
  | .ret, a, w => ∃ st pl Z, Q .ret st ∧ Rel P cx st a w pl Z
  | _, _, _ => False
theorem QOf.mono {P : Program} {cx : Cx} {Q Q' : Ex → St → Prop} (h : ∀ e st, Q e st → Q' e st) : ∀ e a w, QOf P cx Q e a w → QOf P cx Q' e a w := by
  intro e a w hq
  cases e <;> simp only [QOf] at hq ⊢
  all_goals (obtain ⟨st, pl, Z, h1, h2⟩ := hq; exact ⟨st, pl, Z, h _ _ h1, h2⟩)
def WeakOk (E : Env) : Prop := ∀ (cx : Cx) (st inv : St) (a : Act) (w : World) (pl : Pl) (Z : Nat → Prop), weak st inv → Rel E.P cx st a w pl Z → ∃ pl', Rel E.P cx inv a w pl' Z
section
variable {E : Env} (hE : tabB E = true) (hm : E.P.follows .mixedOrders = true) (hW : WeakOk E)
include hE hm hW
theorem vc_sound {cx : Cx} : ∀ {c : Code} {st : St} {Q : Ex → St → Prop}, codeOk cx.nt c = true → vc E c st Q → ∀ {a : Act} {w : World} {pl : Pl} {Z : Nat → Prop}, Rel E.P cx st a w pl Z → c.wp E.P (QOf E.P cx Q) a w
  | .skip, st, Q, _, h, a, w, pl, Z, R => wp_skip ⟨st, pl, Z, h, R⟩
  | .region rid ops dr, st, Q, hc, h, a, w, pl, Z, R => by
    have hd := dstsOk_spec (nt := cx.nt) (ops := ops) hc
    simp only [vc] at h
    obtain ⟨st, Z, h, R⟩ := frzK_sound h R
    cases dr
    · refine wp_region ?_
      have := seq_sound (Q := QOf E.P cx Q) hE hd (r := ops.toList) (i := 0) rfl h R fun st' a' w' pl' Z' hk R' => ⟨st', pl', Z', hk, R'⟩
      rwa [List.range_eq_range', ← Array.length_toList]
    · exact draw_sound (Q := QOf E.P cx Q) hE hm hd h R fun st' a' w' pl' Z' hk R' => ⟨st', pl', Z', hk, R'⟩
  | .seq x y, st, Q, hc, h, a, w, pl, Z, R => by
    simp only [codeOk, Bool.and_eq_true] at hc
    simp only [vc] at h
    refine wp_seq (wp_mono (vc_sound hc.1 h R) fun e a' w' hq => ?_)
    cases e <;> simp only [QOf, Exit.then] at hq ⊢
    · obtain ⟨st', pl', Z', h1, h2⟩ := hq; exact vc_sound hc.2 h1 h2
    all_goals exact hq
  | .cond c x y, st, Q, hc, h, a, w, pl, Z, R => by
    simp only [codeOk, Bool.and_eq_true] at hc
    simp only [vc] at h
    replace h := getX_sound h
    obtain ⟨rt, v, h, hr, he⟩ := h
    obtain ⟨h1, _⟩ := he cx st a w pl Z R hr
    clear he
    split at h
    · obtain ⟨e1, _⟩ := h1
      refine wp_cond e1 ?_
      rename Bool => b
      cases b
      · exact vc_sound hc.2 h R
      · exact vc_sound hc.1 h R
    · exact h.elim
  | .block id c, st, Q, hc, h, a, w, pl, Z, R => by
    simp only [vc] at h
    obtain ⟨st, Z, h, R⟩ := frzK_sound h R
    refine wp_block (wp_mono (vc_sound (c := c) hc h R) fun e a' w' hq => ?_)
    cases e <;> simp only [QOf, Exit.inBlock] at hq ⊢
    · exact hq
    · rename_i id'
      obtain ⟨st', pl', Z', h1, h2⟩ := hq
      cases hb : Nat.beq id' id with
      | true =>
        rw [hb] at h1
        rw [if_pos (Nat.eq_of_beq_eq_true hb)]
        exact ⟨st', pl', Z', h1, h2⟩
      | false =>
        rw [hb] at h1
        rw [if_neg fun e => by rw [e, Nat.beq_refl] at hb; cases hb]
        exact ⟨st', pl', Z', h1, h2⟩
    all_goals exact hq
  | .loop c, st, Q, hc, h, a, w, pl, Z, R => by
    simp only [vc] at h
    obtain ⟨α, inv, μ, a0, hw, hround⟩ := h
    obtain ⟨pl0, R0⟩ := hW cx st (inv a0) a w pl Z hw R
    have key : ∀ (n : Nat) (x : α), μ x < n → ∀ (a : Act) (w : World) (pl : Pl) (Z : Nat → Prop), Rel E.P cx (inv x) a w pl Z → Code.rounds E.P c (QOf E.P cx Q) n a w := by
      intro n
      induction n with
      | zero => intro x hx; omega
      | succ n ih =>
        intro x hx a w pl Z R
        simp only [Code.rounds]
        refine wp_mono (vc_sound (c := c) hc (hround x) R) fun e a' w' hq => ?_
        cases e <;> simp only [QOf, Exit.then] at hq ⊢
        · obtain ⟨st', pl', Z', ⟨x', h1, h2⟩, R'⟩ := hq
          obtain ⟨pl2, R2⟩ := hW cx st' (inv x') a' w' pl' Z' h2 R'
          exact ih x' (by omega) a' w' pl2 Z' R2
        all_goals exact hq
    exact wp_loop_rounds (μ a0 + 1) (key _ a0 (Nat.lt_succ_self _) a w pl0 Z R0)
  | .exit id, st, Q, _, h, a, w, pl, Z, R => wp_exit ⟨st, pl, Z, h, R⟩
  | .ret, st, Q, _, h, a, w, pl, Z, R => wp_ret ⟨st, pl, Z, h, R⟩
  | .rangeFunc .., _, _, _, h, _, _, _, _, _ => h.elim
  | .scope _, _, _, _, h, _, _, _, _, _ => h.elim
  | .label _, _, _, _, h, _, _, _, _, _ => h.elim
  | .goto _, _, _, _, h, _, _, _, _, _ => h.elim
  | .refuse _, _, _, _, h, _, _, _, _, _ => h.elim
end
end Go.AM
end
section
namespace Go.AM
open Go
set_option linter.unusedVariables false
def Pl.re (r : List (Nat × Nat)) (pl : Pl) : Pl := ⟨fun n => pl.hdr (renN r n), fun n => pl.adr (renN r n), fun n => pl.own (renN r n)⟩
theorem eqNs_spec : ∀ {a b : List Nat}, eqNs a b = true → a = b
  | [], [], _ => rfl
  | [], _ :: _, h => by cases h
  | _ :: _, [], h => by cases h
  | a :: r, b :: r', h => by
    simp only [eqNs] at h
    cases hb : Nat.beq a b <;> rw [hb] at h
    · cases h
    · rw [Nat.eq_of_beq_eq_true hb, eqNs_spec h]
theorem eqV_spec {x y : Value} (h : eqV x y) : x = y := by
  unfold eqV at h
  split at h
  · split at h
    · rename_i hk; rw [kB_eq hk, h]
    · exact h.elim
  · rw [h]
  · exact h
theorem eqA_spec {a b : AV} {k : Prop} (h : eqA a b k) : k ∧ ((a = .undef ∧ b ≠ .na) ∨ a = b) := by
  unfold eqA at h
  split at h
  · exact h.elim
  · rename_i hb; exact ⟨h, .inl ⟨rfl, fun e => hb e⟩⟩
  · exact ⟨h, .inr rfl⟩
  · obtain ⟨h1, h2⟩ := h; exact ⟨h2, .inr (by rw [eqV_spec h1])⟩
  · obtain ⟨h1, h2⟩ := h; exact ⟨h2, .inr (by rw [Nat.eq_of_beq_eq_true h1])⟩
  · obtain ⟨h1, h2, h3⟩ := h; exact ⟨h3, .inr (by rw [h1, h2])⟩
  · split at h
    · rename_i h1 h2
      obtain ⟨h3, h4⟩ := h; exact ⟨h4, .inr (by rw [eqNs_spec h1, Nat.eq_of_beq_eq_true h2, h3])⟩
    · exact h.elim
  · split at h
    · rename_i h1; exact ⟨h, .inr (by rw [Nat.eq_of_beq_eq_true h1])⟩
    · exact h.elim
  · split at h
    · rename_i h1; obtain ⟨h2, h3, h4⟩ := h; exact ⟨h4, .inr (by rw [Nat.eq_of_beq_eq_true h1, h2, h3])⟩
    · exact h.elim
  · split at h
    · rename_i h1; obtain ⟨h2, h3, h4⟩ := h; exact ⟨h4, .inr (by rw [eqNs_spec h1, h2, h3])⟩
    · exact h.elim
  · obtain ⟨h1, h2, h3⟩ := h; exact ⟨h3, .inr (by rw [h1, h2])⟩
  · exact h.elim
theorem eqAs_spec : ∀ {as1 bs : List AV} {k : Prop}, eqAs as1 bs k → k ∧ as1.length = bs.length ∧ ∀ (j : Nat) (a b : AV), as1[j]? = some a → bs[j]? = some b → (a = .undef ∧ b ≠ .na) ∨ a = b
  | [], [], k, h => ⟨h, rfl, fun j a b h => by simp at h⟩
  | [], _ :: _, k, h => h.elim
  | _ :: _, [], k, h => h.elim
  | a :: r, b :: r', k, h => by
    obtain ⟨h1, h2⟩ := eqA_spec h
    obtain ⟨h3, h4, h5⟩ := eqAs_spec h1
    refine ⟨h3, by simp [h4], fun j x y hx hy => ?_⟩
    cases j with
    | zero => simp at hx hy; subst hx; subst hy; exact h2
    | succ j => exact h5 j x y (by simpa using hx) (by simpa using hy)
theorem eqTs_spec {ren : List (Nat × Nat)} {t : List (Nat × TV)} : ∀ {l : List (Nat × TV)} {k : Prop}, eqTs ren t l k → k ∧ ∀ p ∈ l, ∃ w, lk t p.1 = some w ∧
    ((∃ a b, p.2 = .one a ∧ w = .one b ∧ ((a.ren ren = .undef ∧ b ≠ .na) ∨ a.ren ren = b)) ∨
     ∃ as1 bs, p.2 = .agg as1 ∧ w = .agg bs ∧ as1.length = bs.length ∧ ∀ (j : Nat) (a b : AV), as1[j]? = some a → bs[j]? = some b → (a.ren ren = .undef ∧ b ≠ .na) ∨ a.ren ren = b)
  | [], k, h => ⟨h, by simp⟩
  | (i, v) :: r, k, h => by
    simp only [eqTs] at h
    split at h
    · rename_i w hw
      unfold eqT at h
      split at h
      · rename_i a b
        obtain ⟨h1, h2⟩ := eqA_spec h
        obtain ⟨h3, h4⟩ := eqTs_spec h1
        refine ⟨h3, fun p hp => ?_⟩
        rcases List.mem_cons.1 hp with rfl | hp
        · exact ⟨_, hw, .inl ⟨a, b, rfl, rfl, h2⟩⟩
        · exact h4 p hp
      · rename_i as1 bs
        obtain ⟨h1, h2, h2'⟩ := eqAs_spec h
        obtain ⟨h3, h4⟩ := eqTs_spec h1
        refine ⟨h3, fun p hp => ?_⟩
        rcases List.mem_cons.1 hp with rfl | hp
        · exact ⟨_, hw, .inr ⟨as1, bs, rfl, rfl, by simpa using h2, fun j a b ha hb => h2' j _ b (by rw [List.getElem?_map, ha]; rfl) hb⟩⟩
        · exact h4 p hp
      · exact h.elim
    · exact h.elim
def OLike (ren : List (Nat × Nat)) : Ob → Ob → Prop
  | .box row, .box row' => row.length = row'.length ∧ ∀ (j : Nat) (a b : AV), row[j]? = some a → row'[j]? = some b → (a.ren ren = .undef ∧ b ≠ .na) ∨ a.ren ren = b
  | .arr t rows p, .arr t' rows' p' => t' = t ∧ rows' = rows ∧ p' = p
  | _, _ => False
theorem eqOs_spec {ren : List (Nat × Nat)} {s : List (Nat × Ob)} : ∀ {l : List (Nat × Ob)} {k : Prop}, eqOs ren s l k → k ∧ ∀ p ∈ l, ∃ o, lk s (renN ren p.1) = some o ∧ OLike ren p.2 o
  | [], k, h => ⟨h, by simp⟩
  | (n, .box row) :: r, k, h => by
    simp only [eqOs] at h
    split at h
    · rename_i row' hw
      obtain ⟨h1, h2, h2'⟩ := eqAs_spec h
      obtain ⟨h3, h4⟩ := eqOs_spec h1
      refine ⟨h3, fun p hp => ?_⟩
      rcases List.mem_cons.1 hp with rfl | hp
      · exact ⟨_, hw, by simpa using h2, fun j a b ha hb => h2' j _ b (by rw [List.getElem?_map, ha]; rfl) hb⟩
      · exact h4 p hp
    · exact h.elim
  | (n, .arr t rows p) :: r, k, h => by
    simp only [eqOs] at h
    split at h
    · rename_i t' rows' p' hw
      have fin : ∀ (hp : p' = p) (ht : Nat.beq t t' = true) (h : rows' = rows ∧ eqOs ren s r k), k ∧ ∀ q ∈ (n, Ob.arr t rows p) :: r, ∃ o, lk s (renN ren q.1) = some o ∧ OLike ren q.2 o := by
        intro hp ht h
        obtain ⟨h3, h4⟩ := eqOs_spec h.2
        refine ⟨h3, fun q hq => ?_⟩
        rcases List.mem_cons.1 hq with rfl | hq
        · exact ⟨_, hw, (Nat.eq_of_beq_eq_true ht).symm, h.1, hp⟩
        · exact h4 q hq
      split at h
      · rename_i ht; exact fin rfl ht h
      · rename_i ht; exact fin rfl ht h
      · exact h.elim
    · exact h.elim
theorem uniqN_nodup : ∀ {l : List Nat}, uniqN l = true → l.Nodup
  | [], _ => List.nodup_nil
  | n :: r, h => by
    simp only [uniqN] at h
    cases hm : memN n r <;> rw [hm] at h
    · exact List.nodup_cons.2 ⟨memN_false.1 hm, uniqN_nodup h⟩
    · cases h
theorem ren_inj {ren : List (Nat × Nat)} {l : List Nat} (h : (l.map (renN ren)).Nodup) {n m : Nat} (hn : n ∈ l) (hm : m ∈ l) (hne : n ≠ m) : renN ren n ≠ renN ren m := by
  induction l with
  | nil => cases hn
  | cons a r ih =>
    rw [List.map_cons, List.nodup_cons] at h
    rcases List.mem_cons.1 hn with e1 | hn' <;> rcases List.mem_cons.1 hm with e2 | hm'
    · exact absurd (e1.trans e2.symm) hne
    · rw [e1]; exact fun e => h.1 (by rw [e]; exact List.mem_map.2 ⟨m, hm', rfl⟩)
    · rw [e2]; exact fun e => h.1 (by rw [← e]; exact List.mem_map.2 ⟨n, hn', rfl⟩)
    · exact ih h.2 hn' hm'
theorem weak_ok (E : Env) : WeakOk E := by
  intro cx st inv a w pl Z hw R
  unfold weak at hw
  simp only [fRs_eq] at hw
  generalize hren : pairTs inv.t st.t ++ pairOs (pairTs inv.t st.t) inv.s st.s = ren at hw
  clear hren
  unfold weakBy at hw
  split at hw
  · rename_i hok
    replace hok := okInvR_ok hok
    obtain ⟨hw, hT⟩ := eqTs_spec hw
    obtain ⟨_, hO⟩ := eqOs_spec hw
    unfold St.okInv at hok
    simp only [Bool.and_eq_true, List.all_eq_true] at hok
    obtain ⟨⟨⟨⟨⟨hz, h63⟩, hu1⟩, hu2⟩, hut⟩, hus⟩ := hok
    have hnd := uniqN_nodup hu2
    have ho : ∀ n o, lk inv.s n = some o → ∃ o', lk st.s (renN ren n) = some o' ∧ OLike ren o o' := fun n o h => hO (n, o) (lk_mem h)
    have hhas : ∀ n, inv.has n → st.has (renN ren n) := by
      intro n hn
      obtain ⟨o, h⟩ := Option.isSome_iff_exists.1 hn
      obtain ⟨o', h', _⟩ := ho n o h
      unfold St.has St.O; rw [h']; rfl
    have hsup : ∀ ns b, Sup pl Z (ns.map (renN ren)) b → Sup (pl.re ren) Z ns b := by
      rintro ns b (h | ⟨m, hm, h⟩)
      · exact .inl h
      · obtain ⟨n, hn, rfl⟩ := List.mem_map.1 hm; exact .inr ⟨n, hn, h⟩
    have hA : ∀ {x y : AV} {v : Value}, okF x = true → ((x.ren ren = .undef ∧ y ≠ .na) ∨ x.ren ren = y) → Ar E.P st pl Z w y v → Ar E.P inv (pl.re ren) Z w x v := by
      intro x y v hf hxy h
      rcases hxy with ⟨e, _⟩ | rfl
      · cases x <;> first | trivial | (simp only [AV.ren] at e; cases e)
      · cases x with
        | undef => trivial
        | na => trivial
        | prim p => exact h
        | emp t => exact h
        | sl t r => exact h.elim
        | fr ns t rows =>
          have h : (∀ n ∈ ns.map (renN ren), st.has n) → Rd E.P w (Sup pl Z (ns.map (renN ren))) (.sl t rows) v := h
          exact fun hn => (h fun m hm => by obtain ⟨n, hn', rfl⟩ := List.mem_map.1 hm; exact hhas n (hn n hn')).mono (hsup ns) fun _ _ => rfl
        | fp ns row off =>
          have h : (∀ n ∈ ns.map (renN ren), st.has n) → Rd E.P w (Sup pl Z (ns.map (renN ren))) (.fp [] row off) v := h
          exact fun hn => (h fun m hm => by obtain ⟨n, hn', rfl⟩ := List.mem_map.1 hm; exact hhas n (hn n hn')).mono (hsup ns) fun _ _ => rfl
        | ref n =>
          intro t rows p hl
          obtain ⟨o', h1, h2⟩ := ho n _ hl
          cases o' with
          | arr t' rows' p' => exact h t' rows' p' h1
          | box row => exact h2.elim
        | ptr n i off =>
          intro o hl
          obtain ⟨o', h1, h2⟩ := ho n _ hl
          have := h o' h1
          rw [this]
          cases o <;> cases o' <;> first | exact h2.elim | skip
          · rfl
          · obtain ⟨rfl, rfl, rfl⟩ := h2; rfl
        | fn f c =>
          have h : Ar E.P st pl Z w (.fn f c) v := h
          obtain ⟨arr, h1, h2, h3⟩ := h
          refine ⟨arr, h1, h2, fun k av y hk hy => ?_⟩
          have h4 := h3 k av y hk hy
          have h5 := List.all_eq_true.1 hf av (List.mem_of_getElem? hk)
          unfold capNl at h5
          split at h5
          · exact h4
          · trivial
          · trivial
          · have h4 : (∀ n ∈ ([] : List Nat), st.has n) → Rd E.P w (Sup pl Z []) _ y := h4
            exact fun _ => (h4 (by simp)).mono (hsup []) fun _ _ => rfl
          · have h4 : (∀ n ∈ ([] : List Nat), st.has n) → Rd E.P w (Sup pl Z []) _ y := h4
            exact fun _ => (h4 (by simp)).mono (hsup []) fun _ _ => rfl
          · cases h5
    refine ⟨pl.re ren, R.tsz, R.df, fun i v hv => ?_, fun n o hl => ?_, fun n hn => R.nd _ (hhas n hn), fun n m hn hm hne => ?_, fun n hn => R.lt _ (hhas n hn), R.zlt, R.z0, R.fr, fun i hi n row hl had => ?_, fun i hi n t rows p hl => ?_, fun i v hv => ?_, fun n o hl => ?_, fun i hi => ⟨hz, fun hn => ?_⟩, R.gl⟩
    · have hok := hut (i, v) (lk_mem hv)
      obtain ⟨w', h1, h2⟩ := hT (i, v) (lk_mem hv)
      obtain ⟨x, h3, h4⟩ := R.tmp i w' h1
      refine ⟨x, h3, ?_⟩
      rcases h2 with ⟨b, c, e1, rfl, h5⟩ | ⟨bs, cs, e1, rfl, h5, h6⟩
      · simp only at e1; subst e1
        simp only [Bool.and_eq_true] at hok
        exact hA hok.2 h5 h4
      · simp only at e1; subst e1
        simp only [Bool.and_eq_true, List.all_eq_true] at hok
        obtain ⟨xs, rfl, h7, h8⟩ := h4
        refine ⟨xs, rfl, by rw [h7, h5], fun k av y hk hy => ?_⟩
        have hkc : k < cs.length := by rw [← h7]; exact (List.getElem?_eq_some_iff.1 hy).1
        exact hA (hok.2 av (List.mem_of_getElem? hk)) (h6 k av _ hk (List.getElem?_eq_getElem hkc)) (h8 k _ y (List.getElem?_eq_getElem hkc) hy)
    · have hok := hus (n, o) (lk_mem hl)
      obtain ⟨o', h1, h2⟩ := ho n o hl
      have h3 := R.obj _ o' h1
      cases o <;> cases o' <;> first | exact h2.elim | skip
      · rename_i row row'
        simp only [Bool.and_eq_true, List.all_eq_true] at hok
        obtain ⟨g1, c, ty, g2, g3, g4⟩ := h3
        refine ⟨g1, c, ty, g2, by rw [h2.1]; exact g3, fun k av y hk hy => ?_⟩
        have hkc : k < row'.length := by rw [← h2.1]; exact (List.getElem?_eq_some_iff.1 hk).1
        exact hA (hok.2 av (List.mem_of_getElem? hk)) (h2.2 k av _ hk (List.getElem?_eq_getElem hkc)) (g4 k _ y (List.getElem?_eq_getElem hkc) hy)
      · obtain ⟨rfl, rfl, rfl⟩ := h2; exact h3
    · refine R.dj _ _ (hhas n hn) (hhas m hm) (ren_inj hnd (lk_isSome.1 ?_) (lk_isSome.1 ?_) hne)
      · exact hn
      · exact hm
    · obtain ⟨o', h1, h2⟩ := ho n _ hl
      cases o' with
      | arr => exact h2.elim
      | box row' =>
        obtain ⟨g1, g2⟩ := R.io i hi _ row' h1 had
        refine ⟨g1, ?_⟩
        rw [← g2]
        apply List.ext_getElem?
        intro k
        rw [List.getElem?_map, List.getElem?_map]
        by_cases hk : k < row.length
        · have hk' : k < row'.length := by rw [← h2.1]; exact hk
          rw [List.getElem?_eq_getElem hk, List.getElem?_eq_getElem hk']
          simp only [Option.map_some, Option.some.injEq]
          have := h2.2 k _ _ (List.getElem?_eq_getElem hk) (List.getElem?_eq_getElem hk')
          have hrn : ∀ z : AV, (z.ren ren).isNa = z.isNa := fun z => by cases z <;> rfl
          rcases this with ⟨e, e'⟩ | e
          · rw [← hrn row[k], e]
            generalize row'[k] = z at e'
            cases z <;> first | rfl | exact absurd rfl e'
          · rw [← e, hrn]
        · rw [List.getElem?_eq_none (by omega), List.getElem?_eq_none (by rw [← h2.1]; omega)]
    · obtain ⟨o', h1, h2⟩ := ho n _ hl
      cases o' with
      | box => exact h2.elim
      | arr t' rows' p' => exact R.ioa i hi _ t' rows' p' h1
    · have hok := hut (i, v) (lk_mem hv)
      simp only [Bool.and_eq_true] at hok
      exact hok.1
    · have hok := hus (n, o) (lk_mem hl)
      simp only [Bool.and_eq_true] at hok
      exact hok.1
    · have h1 := hhas 63 hn
      rw [Nat.eq_of_beq_eq_true h63] at h1
      show pl.adr (renN ren 63) = _
      rw [Nat.eq_of_beq_eq_true h63]
      exact (R.u0 i hi).2 h1
  · exact hw.elim
end Go.AM
end
