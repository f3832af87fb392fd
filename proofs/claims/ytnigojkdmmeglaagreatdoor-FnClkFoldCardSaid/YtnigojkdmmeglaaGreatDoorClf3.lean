/- The law FnClkFold: part 3 of 9. No conditions beyond the statement. -/
import Derived.Test.YtnigojkdmmeglaaGreatDoorClf2
set_option linter.unusedVariables false
set_option linter.unusedSimpArgs false
section
namespace Go.AM
open Go
set_option linter.unusedVariables false
section
variable {E:Env} {st:St} {uid:Nat}
theorem xrn {f ty lo hi:Nat} {rt:List (Nat × TV)} {ms:List Mode} {a:TV} {r:List TV}:D1 (callIoP E st uid f ty lo hi rt ms a r):=fun k h=>by
 unfold callIoP at h ⊢
 split at h
 · replace h:=xwz _ h
   obtain ⟨ti,h,h0⟩:=h
   split at h
   · rename_i row hob
     split at h
     · rename_i hle
       replace h:=xbx _ h
       obtain ⟨cs,ns,ro,d,h,h1⟩:=h
       replace h:=xby _ h
       obtain ⟨ins,lent,ro',d',h,h2⟩:=h
       split at h
       · rename_i hh
         obtain ⟨bs,res,hs,h⟩:=h
         replace h:=xai _ h
         obtain ⟨h,h3⟩:=h
         replace h:=xhk _ h
         obtain ⟨h,h4⟩:=h
         simp only [xp] at h
         split at h
         · rename_i b1 b2 b3
           rw [zj,x4] at h
           refine ⟨_,h,fun k' h'=>h0 _ ?_⟩
           simp only [hle]
           refine h1 _ ?_
           refine h2 _ ?_
           simp only [hh]
           refine ⟨bs,res,hs,h3 _ (h4 _ ?_)⟩
           simp only [xp,b1,b2,b3,zj,x4]
           exact h'
         · exact h.elim
       · exact h.elim
     · exact h.elim
   · rename_i t rows p hob
     obtain ⟨row,hrow,h⟩:=h
     split at h
     · rename_i hle hC
       replace h:=xby _ h
       obtain ⟨ins,lent,ro',d',h,h2⟩:=h
       split at h
       · rename_i hh
         obtain ⟨bs,res,hs,h⟩:=h
         replace h:=v6 _ h
         obtain ⟨h,h3⟩:=h
         replace h:=xhk _ h
         obtain ⟨h,h4⟩:=h
         simp only at h
         split at h
         · rename_i b3
           rw [xp,zj,x4] at h
           refine ⟨_,h,fun k' h'=>h0 _ ?_⟩
           refine ⟨row,hrow,?_⟩
           simp only [hle,hC]
           refine h2 _ ?_
           simp only [hh]
           refine ⟨bs,res,hs,h3 _ (h4 _ ?_)⟩
           simp only [xp,b3,zj,x4]
           exact h'
         · exact h.elim
       · exact h.elim
     · exact h.elim
   · exact h.elim
 · exact h.elim
theorem xhl {f ty:Nat} {rt:List (Nat × TV)} {args:List TV}:D1 (callP E st uid f ty rt args):=fun k h=>by
 unfold callP at h ⊢
 split at h
 · exact xrn _ h
 · obtain ⟨ins,lent,ro',d',h,h2⟩:=xby _ h
   split at h
   · rename_i hh
     obtain ⟨res,hs,h⟩:=h
     obtain ⟨h,h4⟩:=xhk _ h
     simp only at h
     split at h
     · rename_i b3
       rw [zj,x4] at h
       refine ⟨_,h,fun k' h'=>h2 _ ?_⟩
       simp only [hh]
       refine ⟨res,hs,h4 _ ?_⟩
       simp only [b3,zj,x4]
       exact h'
     · exact h.elim
   · exact h.elim
theorem xj4 {fs:List (Nat × Nat)}:∀ {l:List (Nat × Operand)} {cs:List AV},D3 (buildC E st fs l cs)
 | [],cs=>fun k h=>⟨_,_,_,h,fun k' h'=>h'⟩
 | (i, x) :: r, cs => fun k h => by
   simp only [buildC] at h ⊢
   split at h
   · rename_i off ft hf
     obtain ⟨ti,h,h1⟩:=xch _ h
     obtain ⟨rt,v,h,h2⟩:=vz _ h
     split at h
     · rename_i g1 g2
       obtain ⟨ro,h,h3⟩:=xw1 _ h
       rw [xp] at h
       obtain ⟨a,b,c,h,h4⟩:=xj4 _ h
       refine ⟨_,_,_,h,fun k' h'=>h1 _ (h2 _ ?_)⟩
       simp only [g1,g2]
       refine h3 _ ?_
       rw [xp]
       exact h4 _ h'
     · exact h.elim
   · exact h.elim
theorem xxi {o:Oper}:D1 (opP E uid st o):=fun k h=>by
 have hx:∀ {ty:Nat} {x:Operand} {F:List (Nat × TV)→TV→(Pk→Prop)→Prop},(∀ rt v,D1 (F rt v))→D1 fun k=>getX E st ty x fun rt v=>F rt v k:=fun hF k h=>by
  obtain ⟨rt,v,h,h1⟩:=vz _ h
  obtain ⟨pk,h,h2⟩:=hF rt v _ h
  exact ⟨pk,h,fun k' h'=>h1 _ (h2 _ h')⟩
 have hi:∀ {t:Nat} {F:TI→(Pk→Prop)→Prop},(∀ ti,D1 (F ti))→D1 fun k=>tyI E t fun ti=>F ti k:=fun hF k h=>by
  obtain ⟨ti,h,h1⟩:=xch _ h
  obtain ⟨pk,h,h2⟩:=hF ti _ h
  exact ⟨pk,h,fun k' h'=>h1 _ (h2 _ h')⟩
 have he:∀ {t:Nat} {F:Nat→(Pk→Prop)→Prop},(∀ ti,D1 (F ti))→D1 fun k=>tyE E t fun ti=>F ti k:=fun hF k h=>by
  obtain ⟨ti,h,h1⟩:=xgm _ h
  obtain ⟨pk,h,h2⟩:=hF ti _ h
  exact ⟨pk,h,fun k' h'=>h1 _ (h2 _ h')⟩
 have ha:∀ {ns:List Nat} {F:List (Nat × Ob)→(Pk→Prop)→Prop},(∀ ro,D1 (F ro))→D1 fun k=>alive st ns fun ro=>F ro k:=fun hF k h=>by
  obtain ⟨ti,h,h1⟩:=qr _ h
  obtain ⟨pk,h,h2⟩:=hF ti _ h
  exact ⟨pk,h,fun k' h'=>h1 _ (h2 _ h')⟩
 have hl:∀ {cs:List AV} {F:List (Nat × Ob)→(Pk→Prop)→Prop},(∀ ro,D1 (F ro))→D1 fun k=>liveC st cs fun ro=>F ro k:=fun hF k h=>by
  obtain ⟨ti,h,h1⟩:=ki _ h
  obtain ⟨pk,h,h2⟩:=hF ti _ h
  exact ⟨pk,h,fun k' h'=>h1 _ (h2 _ h')⟩
 have hr:∀ {cs:List AV} {del:List Nat} {F:List AV→List (Nat × Ob)→List Nat→(Pk→Prop)→Prop},(∀ a b c,D1 (F a b c))→D1 fun k=>rowCells st cs del fun a b c=>F a b c k:=fun hF k h=>by
  obtain ⟨a,b,c,h,h1⟩:=yn _ h
  obtain ⟨pk,h,h2⟩:=hF a b c _ h
  exact ⟨pk,h,fun k' h'=>h1 _ (h2 _ h')⟩
 have hp:∀ pk:Pk,D1 fun k:Pk→Prop=>k pk:=fun pk k h=>⟨pk,h,fun k' h'=>h'⟩
 have h0:D1 fun _:Pk→Prop=>False:=fun k h=>h.elim
 have hex:∀ {α:Type} {F:α→(Pk→Prop)→Prop},(∀ c,D1 (F c))→D1 fun k=>∃ c,F c k:=fun hF k h=>by
  obtain ⟨c,h⟩:=h
  obtain ⟨pk,h,h2⟩:=hF c _ h
  exact ⟨pk,h,fun k' h'=>⟨c,h2 _ h'⟩⟩
 have han:∀ {p:Prop} {F:(Pk→Prop)→Prop},D1 F→D1 fun k=>p∧F k:=fun hF k h=>by
  obtain ⟨c,h⟩:=h
  obtain ⟨pk,h,h2⟩:=hF _ h
  exact ⟨pk,h,fun k' h'=>⟨c,h2 _ h'⟩⟩
 have hor:∀ {F G:(Pk→Prop)→Prop},D1 F→D1 G→D1 fun k=>F k∨G k:=fun hF hG k h=>by
  rcases h with h|h
  · obtain ⟨pk,h,h2⟩:=hF _ h
    exact ⟨pk,h,fun k' h'=>.inl (h2 _ h')⟩
  · obtain ⟨pk,h,h2⟩:=hG _ h
    exact ⟨pk,h,fun k' h'=>.inr (h2 _ h')⟩
 have hxs:∀ {l:List (Nat × Operand)} {F:List (Nat × TV)→List TV→(Pk→Prop)→Prop},(∀ rt v,D1 (F rt v))→D1 fun k=>getXs E st l fun rt v=>F rt v k:=fun hF k h=>by
  obtain ⟨rt,v,h,h1⟩:=xbw _ h
  obtain ⟨pk,h,h2⟩:=hF rt v _ h
  exact ⟨pk,h,fun k' h'=>h1 _ (h2 _ h')⟩
 have hro:∀ {n:Nat} {css:List (List AV)} {del:List Nat} {F:List (List AV)→List (Nat × Ob)→List Nat→(Pk→Prop)→Prop},(∀ a b c,D1 (F a b c))→D1 fun k=>rowsOf st n css del fun a b c=>F a b c k:=fun hF k h=>by
  obtain ⟨a,b,c,h,h1⟩:=xj3 _ h
  obtain ⟨pk,h,h2⟩:=hF a b c _ h
  exact ⟨pk,h,fun k' h'=>h1 _ (h2 _ h')⟩
 have hcall:∀ {f ty:Nat} {rt:List (Nat × TV)} {args:List TV},D1 fun k=>callP E st uid f ty rt args k:=xhl
 have key:D1 (opP E uid st o):=by
  show D1 fun k=>opP E uid st o k
  cases hop:o.op with
  | move x=>simp only [opP,hop]; exact hx fun rt v=>hp _
  | assign x =>
    simp only [opP,hop]
    refine hx fun rt v=>?_
    cases v with
    | one a=>cases a<;>exact hp _
    | _=>exact hp _
  | pick c a b =>
    simp only [opP,hop]
    refine hx fun rt v=>?_
    cases v with
    | one a =>
      cases a with
      | prim w =>
        cases w with
        | bool b=>cases b<;>exact hx fun rt v=>hp _
        | _=>exact h0
      | _=>exact h0
    | _=>exact h0
  | alloc e=>simp only [opP,hop,xp,x4]; exact hi fun ti=>hp _
  | box e x =>
    simp only [opP,hop,xp,x4]
    refine hx fun rt v=>?_
    cases v with
    | tup vs=>exact h0
    | _ =>
      refine hi fun ti=>?_
      generalize lenIs _ ti.n=q
      cases q
      · exact h0
      · exact hl fun ro=>hp _
  | build t parts =>
    simp only [opP,hop]
    cases lk E.T t with
    | none=>exact h0
    | some ti =>
      obtain ⟨d,n,z⟩:=ti
      cases d with
      | strct fs =>
        intro k h
        obtain ⟨a,b,c,h,h1⟩:=xj4 _ h
        exact ⟨_,h,fun k' h'=>h1 _ h'⟩
      | _=>exact h0
  | buildSlice t n parts =>
    simp only [opP,hop]
    refine he fun e=>hi fun ti=>?_
    generalize (Nat.beq parts.size n && Nat.ble n 4096)=q1
    generalize partsB 0 parts.toList=q2
    cases q1<;>cases q2<;>first|exact h0|exact hxs fun rt vs=>hro fun a b c=>hp _
  | load t x =>
    simp only [opP,hop,xp]
    refine hi fun ti=>hx fun rt v=>?_
    cases v with
    | one a =>
      cases a with
      | ptr n i off =>
        simp only
        cases lk st.s n with
        | none=>exact h0
        | some ob =>
          cases ob with
          | box row =>
            simp only
            generalize leLen _ row=q1
            generalize allB noNa _=q2
            cases q1<;>cases i<;>cases q2<;>first|exact h0|exact hp _
          | arr te rows p =>
            simp only
            refine hex fun row=>han ?_
            generalize leLen _ row=q1
            cases q1<;>first|exact h0|exact hp _
      | fp ns row off =>
        simp only
        generalize leLen _ row=q1
        cases q1<;>first|exact h0|exact ha fun ro=>hp _
      | _=>exact h0
    | _=>exact h0
  | store t x w =>
    simp only [opP,hop,xp,x4]
    refine hi fun ti=>hx fun rt a=>hx fun rt' v=>?_
    generalize lenIs (tvCells v) ti.n=q
    cases a with
    | one a =>
      cases a with
      | ptr n i off =>
        cases q with
        | false=>exact h0
        | true =>
          simp only
          cases lk st.s n with
          | none=>exact h0
          | some ob =>
            cases ob with
            | box row =>
              simp only
              generalize leLen _ row=q1
              generalize allB noNa _=q2
              cases q1<;>cases i<;>cases q2<;>first|exact h0|skip
              refine hl fun ro=>?_
              generalize allB (keepsB n) _=q3
              cases q3<;>first|exact h0|exact hp _
            | arr te rows p =>
              simp only
              refine hex fun row=>han ?_
              generalize leLen _ row=q1
              cases q1<;>first|exact h0|exact hr fun a b c=>hp _
      | _=>exact h0
    | _=>exact h0
  | nilCheck x =>
    simp only [opP,hop]
    refine hx fun rt v=>?_
    cases v with
    | one a =>
      cases a with
      | ptr n i off =>
        simp only
        cases lk st.s n with
        | none=>exact h0
        | some ob=>exact hp _
      | fp ns row off=>exact ha fun ro=>hp _
      | _=>exact h0
    | _=>exact h0
  | binOp op t x y ty =>
    simp only [opP,hop]
    refine hx fun rt a=>hx fun rt' b=>?_
    cases a with
    | one a =>
      cases a with
      | prim a =>
        cases b with
        | one b =>
          cases b with
          | prim b =>
            refine hi fun ti=>?_
            intro k h
            obtain ⟨c,h,h1⟩:=xw0 _ h
            exact ⟨_,h,fun k' h'=>h1 _ h'⟩
          | _=>exact h0
        | _=>exact h0
      | _=>exact h0
    | _=>exact h0
  | unOp op t x =>
    simp only [opP,hop]
    refine hx fun rt a=>?_
    cases a with
    | one a =>
      cases a with
      | prim a =>
        intro k h
        obtain ⟨c,h,h1⟩:=xxh _ h
        exact ⟨_,h,fun k' h'=>h1 _ h'⟩
      | _=>exact h0
    | _=>exact h0
  | convert src dst x =>
    simp only [opP,hop]
    refine hi fun _=>hx fun rt a=>hi fun ti=>?_
    intro k h
    split at h
    · obtain ⟨c,h1,h⟩:=h; exact ⟨_,h,fun k' h'=>⟨c,h1,h'⟩⟩
    · exact ⟨_,h,fun k' h'=>h'⟩
    · rename_i n h1 h2
      have key:D1 fun k:Pk→Prop=>(match lk st.s n with
       | some (.arr t rows p)=>tyE E src fun e=>tyI E e fun ei=>match ei.d,ei.z with
         | .sc,[.prim (.int .u8 _)]=>∃ l:List UInt8,rows=bytesRows l∧k ⟨rt,[(n,.arr t rows p)],.one (.prim (.string ⟨l.toArray⟩)),[],[]⟩
         | _,_=>False
       | _=>False):=by
       cases lk st.s n with
       | none=>exact h0
       | some ob =>
         cases ob with
         | box row=>exact h0
         | arr t rows p =>
           simp only
           refine he fun e=>hi fun ei=>?_
           intro k h
           split at h
           · obtain ⟨l,h1,h⟩:=h; exact ⟨_,h,fun k' h'=>⟨l,h1,h'⟩⟩
           · exact h.elim
      exact key k h
    · exact h.elim
  | makeFunc fn first caps =>
    simp only [opP,hop]
    intro k h
    split at h
    · obtain ⟨rt,vs,h,h1⟩:=xbw _ h
      obtain ⟨cs,h,h2⟩:=xnm _ h
      exact ⟨_,h,fun k' h'=>h1 _ (h2 _ h')⟩
    · exact h.elim
  | makeSlice t l c =>
    simp only [opP,hop]
    refine he fun e=>hi fun ti=>hx fun rt a=>hx fun rt' b=>?_
    intro k h
    split at h
    · obtain ⟨h1,h2,h3,h⟩:=h
      obtain ⟨a,b,c,h,h4⟩:=yn _ h
      split at h
      · exact ⟨_,h,fun k' h'=>⟨h1,h2,h3,h4 _ h'⟩⟩
      · exact h.elim
    · exact h.elim
  | slice t x lo hi' mx =>
    simp only [opP,hop]
    cases mx with
    | some _=>exact h0
    | none =>
      simp only
      refine hx fun rt v=>hx fun rt1 a=>?_
      cases a with
      | one a =>
        cases a with
        | prim a =>
          cases a with
          | int j l =>
            simp only
            cases v with
            | one v =>
              cases v with
              | prim v =>
                cases v with
                | string s =>
                  simp only
                  refine hi fun ti=>?_
                  obtain ⟨d,n,z⟩:=ti
                  intro k h
                  split at h
                  · obtain ⟨rt2,b,h,h1⟩:=vz _ h
                    split at h
                    · obtain ⟨g1,g2,g3,h⟩:=h; exact ⟨_,h,fun k' h'=>h1 _ ⟨g1,g2,g3,h'⟩⟩
                    · exact h.elim
                  · exact h.elim
                | _=>exact h0
              | fr ns te rows =>
                simp only
                refine he fun e=>hi fun _=>ha fun ro=>hx fun rt2 b=>?_
                generalize Nat.beq te e=q
                intro k h
                split at h
                · obtain ⟨g1,g2,g3,h⟩:=h; exact ⟨_,h,fun k' h'=>⟨g1,g2,g3,h'⟩⟩
                · exact h.elim
              | ref n =>
                simp only
                cases lk st.s n with
                | none=>exact h0
                | some ob =>
                  cases ob with
                  | box row=>exact h0
                  | arr te rows p =>
                    simp only
                    refine he fun e=>hi fun _=>hx fun rt2 b=>?_
                    generalize Nat.beq te e=q
                    generalize memN uid E.cut=q2
                    intro k h
                    split at h
                    · obtain ⟨g1,g2,g3,h⟩:=h
                      split at h
                      · obtain ⟨g4,h⟩:=h; exact ⟨_,h,fun k' h'=>⟨g1,g2,g3,g4,h'⟩⟩
                      · exact ⟨_,h,fun k' h'=>⟨g1,g2,g3,h'⟩⟩
                    · exact h.elim
              | _=>exact h0
            | _=>exact h0
          | _=>exact h0
        | _=>exact h0
      | _=>exact h0
  | fieldAddr sT x f =>
    simp only [opP,hop]
    intro k h
    split at h
    · split at h
      · obtain ⟨rt,v,h,h1⟩:=vz _ h
        split at h
        · rename_i n i off
          cases hl:lk st.s n with
          | none=>rw [hl] at h; exact h.elim
          | some ob=>rw [hl] at h; exact ⟨_,h,fun k' h'=>h1 _ (by simp only [hl]; exact h')⟩
        · obtain ⟨ro,h,h2⟩:=qr _ h; exact ⟨_,h,fun k' h'=>h1 _ (h2 _ h')⟩
        · exact h.elim
      · exact h.elim
    · exact h.elim
  | field sT x f =>
    simp only [opP,hop,xp]
    intro k h
    split at h
    · split at h
      · obtain ⟨ti,h,h0'⟩:=xch _ h
        obtain ⟨rt,v,h,h1⟩:=vz _ h
        split at h
        · split at h
          · rename_i hle
            exact ⟨_,h,fun k' h'=>h0' _ (h1 _ (by simp only [hle]; exact h'))⟩
          · exact h.elim
        · exact h.elim
      · exact h.elim
    · exact h.elim
  | indexAddr t x ix =>
    simp only [opP,hop]
    refine hx fun rt v=>hx fun rt' w=>?_
    cases w with
    | one w =>
      cases w with
      | prim w =>
        cases w with
        | int j i =>
          simp only
          refine he fun e=>hi fun _=>?_
          cases v with
          | one v =>
            cases v with
            | fr ns te rows =>
              simp only
              generalize Nat.beq te e=q
              cases q
              · exact h0
              · exact ha fun ro=>han (hex fun row=>han (hp _))
            | ref n =>
              simp only
              cases lk st.s n with
              | none=>exact h0
              | some ob =>
                cases ob with
                | box row=>exact h0
                | arr te rows p =>
                  simp only
                  generalize Nat.beq te e=q
                  cases q
                  · exact h0
                  · exact han (han (hp _))
            | _=>exact h0
          | _=>exact h0
        | _=>exact h0
      | _=>exact h0
    | _=>exact h0
  | index t x ix =>
    simp only [opP,hop]
    refine hx fun rt v=>hx fun rt' w=>?_
    intro k h
    split at h
    · obtain ⟨ti,h,h0'⟩:=xch _ h
      obtain ⟨d,n,z⟩:=ti
      split at h
      · rename_i hd hz
        simp only at hd hz
        subst hd; subst hz
        obtain ⟨g1,b,g2,h⟩:=h; exact ⟨_,h,fun k' h'=>h0' _ ⟨g1,b,g2,h'⟩⟩
      · exact h.elim
    · exact h.elim
  | extract x i =>
    simp only [opP,hop]
    refine hx fun rt v=>?_
    cases v with
    | tup vs =>
      simp only
      cases vs[i]? with
      | none=>exact h0
      | some p =>
        obtain ⟨a,cs⟩:=p
        simp only
        generalize (a || lenIs cs 1)=q
        cases q
        · exact h0
        · exact hp _
    | _=>exact h0
  | call c =>
    simp only [opP,hop]
    intro k h
    split at h
    ·
      split at h
      · obtain ⟨rt,v,h,h1⟩:=vz _ h
        split at h
        · obtain ⟨ti,h,h2⟩:=xch _ h
          obtain ⟨d,n,z⟩:=ti
          split at h
          · rename_i hd hz
            simp only at hd hz
            subst hd; subst hz
            exact ⟨_,h,fun k' h'=>h1 _ (h2 _ h')⟩
          · exact h.elim
        · obtain ⟨e,h,h2⟩:=xgm _ h
          obtain ⟨ro,h,h3⟩:=qr _ h
          exact ⟨_,h,fun k' h'=>h1 _ (h2 _ (h3 _ h'))⟩
        · obtain ⟨e,h,h2⟩:=xgm _ h
          exact ⟨_,h,fun k' h'=>h1 _ (h2 _ h')⟩
        · rename_i n
          obtain ⟨e,h,h2⟩:=xgm _ h
          cases hl':lk st.s n with
          | none=>rw [hl'] at h; exact h.elim
          | some ob =>
            cases ob with
            | box row=>rw [hl'] at h; exact h.elim
            | arr te rows p=>rw [hl'] at h; exact ⟨_,h,fun k' h'=>h1 _ (h2 _ (by simp only [hl']; exact h'))⟩
        · exact h.elim
      · exact h.elim
    ·
      split at h
      · rename_i x y t t' _ _
        have key:D1 fun k:Pk→Prop=>(getX E st t x fun rt v=>getX E st t' y fun rt' w=>tyE E t fun e=>tyI E e fun _=>match Nat.beq t t',v with
         | true,.one (.ref n)=>match lk st.s n with
           | some (.arr te rows false)=>match Nat.beq te e with
            | false=>False
            | true=>match w with
             | .one (.ref m)=>match Nat.beq m n,lk st.s m with
               | false,some (.arr te' rows' false)=>match Nat.beq te te' with
                 | true=>rows.length+rows'.length≤1048576∧match memN uid E.keep with
                   | true=>allSh rows'∧k ⟨rt++rt',[(n,.arr te rows false),(m,.arr te' rows' false)],.one (.ref (uid*64)),[(uid*64,.arr te (rows++rows') false)],[n]⟩
                   | false=>k ⟨rt++rt',[(n,.arr te rows false),(m,.arr te' rows' false)],.one (.ref (uid*64)),[(uid*64,.arr te (rows++rows') false)],[n,m]⟩
                 | false=>False
               | _,_=>False
             | .one (.fr ns te' rows')=>alive st ns fun ro=>match Nat.beq te te',memN n ns with
               | true,false=>rows.length+rows'.length≤1048576 ∧
                 ((allPrim rows' ∧ k ⟨rt ++ rt', (n, .arr te rows false) :: ro, .one (.ref (uid * 64)), [(uid * 64, .arr te (rows ++ rows') false)], [n]⟩) ∨
                  (ns=[]∧frzOk rows'∧k ⟨rt++rt',(n,.arr te rows false)::ro,.one (.ref (uid*64)),[(uid*64,.arr te (rows++rows'.map (List.map frz)) false)],[n]⟩))
               | _,_=>False
             | _=>False
           | _=>False
         | _,_=>False):=by
         refine hx fun rt v=>hx fun rt' w=>he fun e=>hi fun _=>?_
         generalize Nat.beq t t'=q
         cases q with
         | false=>cases v<;>exact h0
         | true =>
           cases v with
           | one v =>
             cases v with
             | ref n =>
               simp only
               cases lk st.s n with
               | none=>exact h0
               | some ob =>
                 cases ob with
                 | box row=>exact h0
                 | arr te rows p =>
                   cases p with
                   | true=>exact h0
                   | false =>
                     simp only
                     generalize Nat.beq te e=q2
                     cases q2 with
                     | false=>exact h0
                     | true =>
                       cases w with
                       | one w =>
                         cases w with
                         | ref m =>
                           simp only
                           generalize Nat.beq m n=q3
                           cases q3 with
                           | true=>cases lk st.s m<;>exact h0
                           | false =>
                             cases lk st.s m with
                             | none=>exact h0
                             | some ob =>
                               cases ob with
                               | box row=>exact h0
                               | arr te' rows' p =>
                                 cases p with
                                 | true=>exact h0
                                 | false =>
                                   simp only
                                   generalize Nat.beq te te'=q4
                                   cases q4
                                   · exact h0
                                   · generalize memN uid E.keep=q6
                                     cases q6
                                     · exact han (hp _)
                                     · exact han (han (hp _))
                         | fr ns te' rows' =>
                           simp only
                           refine ha fun ro=>?_
                           generalize Nat.beq te te'=q4
                           generalize memN n ns=q5
                           cases q4<;>cases q5<;>first|exact h0|exact han (hor (han (hp _)) (han (han (hp _))))
                         | _=>exact h0
                       | _=>exact h0
             | _=>exact h0
           | _=>exact h0
        exact key k h
      · exact h.elim
    · obtain ⟨rt,vs,h,h1⟩:=xbw _ h
      split at h
      · rename_i hlen
        obtain ⟨pk,h,h2⟩:=xhl _ h
        exact ⟨_,h,fun k' h'=>h1 _ (by simp only [hlen]; exact h2 _ h')⟩
      · exact h.elim
    · rename_i i
      split at h
      · obtain ⟨rt,vs,h,h1⟩:=xbw _ h
        split at h
        · rename_i hlen
          obtain ⟨pk,h,h2⟩:=xhl _ h
          exact ⟨_,h,fun k' h'=>h1 _ (by simp only [hlen]; exact h2 _ h')⟩
        · exact h.elim
      · exact h.elim
    · exact h.elim
  | _=>simp only [opP,hop]; exact h0
 exact key k h
end
end Go.AM
end
section
namespace Go.AM
open Go
set_option linter.unusedVariables false
section
variable {E:Env}
theorem xt6 {st:St} {dst:Option Nat} {uid:Nat} {pk:Pk}:D1 (applyK st dst uid pk):=fun k h=>by
 obtain ⟨t,s,u⟩:=st
 unfold applyK at h ⊢
 cases dst<;>simp only [vq,xdb,x4,zj] at h ⊢<;>split at h<;>exact ⟨_,h,fun k' h'=>h'⟩
theorem xnn {uid:Nat} {st:St} {o:Oper}:D2 (stepK E uid st o):=fun k h=>by
 unfold stepK at h ⊢
 replace h:=xxi _ h
 obtain ⟨pk,h,h1⟩:=h
 split at h
 · rename_i hok
   obtain ⟨st',h,h2⟩:=xt6 _ h
   exact ⟨_,_,h,fun k' h'=>h1 _ (by simp only [hok]; exact h2 _ h')⟩
 · exact h.elim
theorem xj5:∀ {ms:List Nat} {st:St},D1 (frzs ms st)
 | [],st=>fun k h=>⟨_,h,fun k' h'=>h'⟩
 | m::r,st=>fun k h=>by
   obtain ⟨t,s,u⟩:=st
   simp only [frzs,xdb,x4] at h ⊢
   split at h
   · obtain ⟨x,h,h1⟩:=xj5 _ h; exact ⟨_,h,fun k' h'=>h1 _ h'⟩
   · obtain ⟨x,h,h1⟩:=xj5 _ h; exact ⟨_,h,fun k' h'=>h1 _ h'⟩
   · exact h.elim
theorem xro {rid:Nat} {st:St}:D1 (frzK E rid st):=fun k h=>by
 unfold frzK at h ⊢
 split at h
 · exact ⟨_,h,fun k' h'=>h'⟩
 · exact xj5 _ h
theorem qd {st:St} {d:Option Nat} {v:TV}:D1 (setK st d v):=fun k h=>by
 obtain ⟨t,s,u⟩:=st
 cases d<;>exact ⟨_,h,fun k' h'=>h'⟩
theorem xbz {all:List Oper} {rid:Nat}:∀ {r:List Oper} {i:Nat} {st:St},D1 (vcSeq E all rid r i st)
 | [],i,st=>fun k h=>⟨_,h,fun k' h'=>h'⟩
 | o::r,i,st=>fun k h=>by
   have step:∀ {st:St} {k:St→Prop},(stepK E ((rid+1)*1000+i) st o fun st' _=>vcSeq E all rid r (i+1) st' k)→∃ x,k x∧∀ k',k' x→stepK E ((rid+1)*1000+i) st o fun st' _=>vcSeq E all rid r (i+1) st' k':=fun h=>by
    obtain ⟨st',pk,h,h1⟩:=xnn _ h
    obtain ⟨x,h,h2⟩:=xbz _ h
    exact ⟨_,h,fun k' h'=>h1 _ (h2 _ h')⟩
   simp only [vcSeq] at h ⊢
   split at h
   · exact step h
   · rename_i j want hg
     split at h
     · rename_i d hd
       split at h
       · rename_i b hv
         cases want<;>cases b<;>simp only [ifB] at h ⊢
         · obtain ⟨s1,h,h1⟩:=qd _ h; obtain ⟨x,h,h2⟩:=step h; exact ⟨_,h,fun k' h'=>h1 _ (h2 _ h')⟩
         · obtain ⟨s1,h,h1⟩:=qd _ h; obtain ⟨s2,h,h2⟩:=qd _ h; obtain ⟨x,h,h3⟩:=xbz _ h; exact ⟨_,h,fun k' h'=>h1 _ (h2 _ (h3 _ h'))⟩
         · obtain ⟨s1,h,h1⟩:=qd _ h; obtain ⟨s2,h,h2⟩:=qd _ h; obtain ⟨x,h,h3⟩:=xbz _ h; exact ⟨_,h,fun k' h'=>h1 _ (h2 _ (h3 _ h'))⟩
         · obtain ⟨s1,h,h1⟩:=qd _ h; obtain ⟨x,h,h2⟩:=step h; exact ⟨_,h,fun k' h'=>h1 _ (h2 _ h')⟩
       · obtain ⟨s2,h,h2⟩:=qd _ h; obtain ⟨x,h,h3⟩:=xbz _ h; exact ⟨_,h,fun k' h'=>h2 _ (h3 _ h')⟩
       · exact h.elim
     · exact h.elim
theorem xb0 {all:List Oper} {rid:Nat}:∀ {r:List Oper} {i:Nat} {st:St},D2 (vcOps E all rid r i st)
 | [],i,st=>fun k h=>⟨_,_,h,fun k' h'=>h'⟩
 | o::r,i,st=>fun k h=>by
   have step:∀ {st:St} {g:List Nat} {k:St→List Foot→Prop},(stepK E ((rid+1)*1000+i) st o fun st' pk=>footK i o g st pk fun ft=>vcOps E all rid r (i+1) st' fun st'' fs=>k st'' (ft::fs))→∃ x y,k x y∧∀ k':St→List Foot→Prop,k' x y→stepK E ((rid+1)*1000+i) st o fun st' pk=>footK i o g st pk fun ft=>vcOps E all rid r (i+1) st' fun st'' fs=>k' st'' (ft::fs):=fun h=>by
    obtain ⟨st',pk,h,h1⟩:=xnn _ h
    rw [xfi] at h
    obtain ⟨x,y,h,h2⟩:=xb0 _ h
    exact ⟨_,_,h,fun k' h'=>h1 _ (by rw [xfi]; exact h2 _ h')⟩
   simp only [vcOps] at h ⊢
   split at h
   · exact step h
   · rename_i j want hg
     split at h
     · rename_i d hd
       split at h
       · rename_i b hv
         cases want<;>cases b<;>simp only [ifB] at h ⊢
         · obtain ⟨s1,h,h1⟩:=qd _ h; obtain ⟨x,y,h,h2⟩:=step h; exact ⟨_,_,h,fun k' h'=>h1 _ (h2 _ h')⟩
         · obtain ⟨s1,h,h1⟩:=qd _ h; obtain ⟨s2,h,h2⟩:=qd _ h; obtain ⟨x,y,h,h3⟩:=xb0 _ h; exact ⟨_,_,h,fun k' h'=>h1 _ (h2 _ (h3 _ h'))⟩
         · obtain ⟨s1,h,h1⟩:=qd _ h; obtain ⟨s2,h,h2⟩:=qd _ h; obtain ⟨x,y,h,h3⟩:=xb0 _ h; exact ⟨_,_,h,fun k' h'=>h1 _ (h2 _ (h3 _ h'))⟩
         · obtain ⟨s1,h,h1⟩:=qd _ h; obtain ⟨x,y,h,h2⟩:=step h; exact ⟨_,_,h,fun k' h'=>h1 _ (h2 _ h')⟩
       · obtain ⟨s2,h,h2⟩:=qd _ h; obtain ⟨x,y,h,h3⟩:=xb0 _ h; exact ⟨_,_,h,fun k' h'=>h2 _ (h3 _ h')⟩
       · exact h.elim
     · exact h.elim
inductive Lp (E:Env) (c:Code) {α:Type} (inv:α→St) (μ:α→Nat):α→Ex→St→Prop
 | done {a:α} {e:Ex} {st:St} (hne:e≠.normal) (h:∀ k':Ex→St→Prop,k' e st→vc E c (inv a) k'):Lp E c inv μ a e st
 | more {a a':α} {s1:St} {e:Ex} {st:St} (hm:μ a'<μ a) (hw:weak s1 (inv a')) (h:∀ k':Ex→St→Prop,k' .normal s1→vc E c (inv a) k') (t:Lp E c inv μ a' e st):Lp E c inv μ a e st
theorem xfl:∀ {c:Code} {st:St},D2 (vc E c st)
 | .skip,st=>fun k h=>⟨_,_,h,fun k' h'=>h'⟩
 | .region rid ops dr,st=>fun k h=>by
   simp only [vc] at h ⊢
   obtain ⟨s1,h,h1⟩:=xro _ h
   cases dr
   · obtain ⟨x,h,h2⟩:=xbz _ h; exact ⟨_,_,h,fun k' h'=>h1 _ (h2 _ h')⟩
   · obtain ⟨x,y,h,h2⟩:=xb0 _ h
     split at h
     · rename_i hok; exact ⟨_,_,h,fun k' h'=>h1 _ (h2 _ (by simp only [hok]; exact h'))⟩
     · exact h.elim
 | .seq a b,st=>fun k h=>by
   simp only [vc] at h ⊢
   obtain ⟨e,s1,h,h1⟩:=xfl _ h
   cases e with
   | normal=>obtain ⟨e',s2,h,h2⟩:=xfl _ h; exact ⟨_,_,h,fun k' h'=>h1 _ (h2 _ h')⟩
   | exit id=>exact ⟨_,_,h,fun k' h'=>h1 _ h'⟩
   | ret=>exact ⟨_,_,h,fun k' h'=>h1 _ h'⟩
 | .cond c x y,st=>fun k h=>by
   simp only [vc] at h ⊢
   obtain ⟨rt,v,h,h1⟩:=vz _ h
   split at h
   · rename_i b
     cases b<;>simp only [ifB] at h
     · obtain ⟨e,s1,h,h2⟩:=xfl _ h; exact ⟨_,_,h,fun k' h'=>h1 _ (h2 _ h')⟩
     · obtain ⟨e,s1,h,h2⟩:=xfl _ h; exact ⟨_,_,h,fun k' h'=>h1 _ (h2 _ h')⟩
   · exact h.elim
 | .block id c,st=>fun k h=>by
   simp only [vc] at h ⊢
   obtain ⟨s0,h,h0⟩:=xro _ h
   obtain ⟨e,s1,h,h1⟩:=xfl _ h
   cases e with
   | normal=>exact ⟨_,_,h,fun k' h'=>h0 _ (h1 _ h')⟩
   | exit id' =>
     simp only at h
     cases hb:Nat.beq id' id<;>rw [hb] at h
     · exact ⟨_,_,h,fun k' h'=>h0 _ (h1 _ (by simp only [hb]; exact h'))⟩
     · exact ⟨_,_,h,fun k' h'=>h0 _ (h1 _ (by simp only [hb]; exact h'))⟩
   | ret=>exact ⟨_,_,h,fun k' h'=>h0 _ (h1 _ h')⟩
 | .loop c,st=>fun Q h=>by
   simp only [vc] at h ⊢
   obtain ⟨α,inv,μ,a0,hw,hr⟩:=h
   have key:∀ (n:Nat) (a:α),μ a<n→∃ e s1,Q e s1∧Lp E c inv μ a e s1:=by
    intro n
    induction n with
    | zero=>intro a ha; omega
    | succ n ih =>
      intro a ha
      obtain ⟨e,s1,h,h1⟩:=xfl _ (hr a)
      cases e with
      | normal =>
        obtain ⟨a',g1,g2⟩:=h
        obtain ⟨e',s2,g3,g4⟩:=ih a' (by omega)
        exact ⟨e',s2,g3,.more g1 g2 h1 g4⟩
      | exit id=>exact ⟨_,_,h,.done (by intro e; cases e) h1⟩
      | ret=>exact ⟨_,_,h,.done (by intro e; cases e) h1⟩
   obtain ⟨e,s1,hq,hl⟩:=key _ a0 (Nat.lt_succ_self _)
   refine ⟨e,s1,hq,fun k' hk'=>⟨{ a:α // Lp E c inv μ a e s1 },fun a=>inv a.1,fun a=>μ a.1,⟨a0,hl⟩,hw,fun a=>?_⟩⟩
   obtain ⟨a,ha⟩:=a
   cases ha with
   | done hne h =>
     refine h _ ?_
     cases e with
     | normal=>exact absurd rfl hne
     | exit id=>exact hk'
     | ret=>exact hk'
   | @more _ a' s2 _ _ hm hw' h t=>exact h _ ⟨⟨a',t⟩,hm,hw'⟩
 | .exit id,st=>fun k h=>⟨_,_,h,fun k' h'=>h'⟩
 | .ret,st=>fun k h=>⟨_,_,h,fun k' h'=>h'⟩
 | .rangeFunc ..,_=>fun k h=>h.elim
 | .scope _,_=>fun k h=>h.elim
 | .label _,_=>fun k h=>h.elim
 | .goto _,_=>fun k h=>h.elim
 | .refuse _,_=>fun k h=>h.elim
theorem xw2 {st:St} {r:ResultVar}:D2 (resV E st r):=fun k h=>by
 unfold resV at h ⊢
 split at h
 · split at h
   · exact ⟨_,_,h,fun k' h'=>h'⟩
   · exact ⟨_,_,h,fun k' h'=>h'⟩
   · exact h.elim
 · split at h
   · replace h:=xch _ h
     obtain ⟨ti,h,h1⟩:=h
     split at h
     · rename_i row hob
       split at h
       · rename_i g1 g2
         exact ⟨_,_,h,fun k' h'=>h1 _ (by simp only [hob,g1,g2]; exact h')⟩
       · exact h.elim
     · exact h.elim
   · exact h.elim
theorem xw3 {st:St} {ag:Bool} {cs:List AV} {del:List Nat}:D2 (retC st ag cs del):=fun k h=>by
 unfold retC at h ⊢
 split at h
 · split at h
   · obtain ⟨a,b,c,h,h1⟩:=yn _ h; exact ⟨_,_,h,fun k' h'=>h1 _ h'⟩
   · exact h.elim
 · obtain ⟨a,b,c,h,h1⟩:=yn _ h; exact ⟨_,_,h,fun k' h'=>h1 _ h'⟩
theorem xrp {st:St}:∀ {rs:List ResultVar} {del:List Nat},D2 (resK E st rs del)
 | [],del=>fun k h=>⟨_,_,h,fun k' h'=>h'⟩
 | r::rs,del=>fun k h=>by
   simp only [resK] at h ⊢
   obtain ⟨ag,cs,h,h1⟩:=xw2 _ h
   obtain ⟨a,b,h,h2⟩:=xw3 _ h
   obtain ⟨c,d,h,h3⟩:=xrp _ h
   exact ⟨_,_,h,fun k' h'=>h1 _ (h2 _ (h3 _ h'))⟩
theorem xw4 {st:St} {io:Bool} {del:List Nat}:D1 (outK st io del):=fun k h=>by
 unfold outK at h ⊢
 split at h
 · exact ⟨_,h,fun k' h'=>h'⟩
 · split at h
   · obtain ⟨a,b,c,h,h1⟩:=yn _ h
     rw [xp] at h
     exact ⟨_,h,fun k' h'=>h1 _ (by rw [xp]; exact h')⟩
   · exact h.elim
theorem xvd {fn:Func} {ins:List (Nat × Mode × TV)} {st:St}:D2 (AM.fin E fn ins st):=fun k h=>by
 unfold AM.fin at h ⊢
 obtain ⟨l,d,h,h1⟩:=xrp _ h
 replace h:=xw4 _ h
 obtain ⟨outs,h,h2⟩:=h
 match l,h,h1,h2 with
 | [(ag,cs)],h,h1,h2 =>
   simp only [zj] at h
   exact ⟨_,_,h,fun k' h'=>h1 _ (h2 _ (by simp only [zj]; exact h'))⟩
 | [],h,h1,h2=>exact ⟨_,_,h,fun k' h'=>h1 _ (h2 _ h')⟩
 | p::q::r,h,h1,h2=>exact ⟨_,_,h,fun k' h'=>h1 _ (h2 _ h')⟩
theorem w7:∀ {l:List (Nat × Mode × TV)},D2 (initK l)
 | []=>fun k h=>⟨_,_,h,fun k' h'=>h'⟩
 | (j, m, v) :: r => fun k h => by
   cases m with
   | pure =>
     simp only [initK] at h ⊢
     cases v with
     | one a =>
       simp only [kn,x4] at h ⊢
       split at h
       · obtain ⟨a,b,h,h1⟩:=w7 _ h; exact ⟨_,_,h,fun k' h'=>h1 _ h'⟩
       · exact h.elim
     | agg as1=>simp only [xp,x4] at h ⊢; obtain ⟨a,b,h,h1⟩:=w7 _ h; exact ⟨_,_,h,fun k' h'=>h1 _ h'⟩
     | tup vs=>exact h.elim
   | own =>
     simp only [initK] at h ⊢
     cases v with
     | one a =>
       simp only [kn,x4] at h ⊢
       split at h
       · obtain ⟨a,b,h,h1⟩:=w7 _ h; exact ⟨_,_,h,fun k' h'=>h1 _ h'⟩
       · exact h.elim
     | agg as1=>simp only [xp,x4] at h ⊢; obtain ⟨a,b,h,h1⟩:=w7 _ h; exact ⟨_,_,h,fun k' h'=>h1 _ h'⟩
     | tup vs=>exact h.elim
   | «mut»=>exact h.elim
   | io lo hi =>
     simp only [initK] at h ⊢
     split at h
     · simp only [xp,x4] at h ⊢
       obtain ⟨a,b,h,h1⟩:=w7 _ h; exact ⟨_,_,h,fun k' h'=>h1 _ h'⟩
     · exact h.elim
theorem xw5 {fn:Func} {c:Code} {ins:List (Nat × Mode × TV)}:D2 (fnVc E fn c ins):=fun k h=>by
 unfold fnVc at h ⊢
 obtain ⟨ts,os,h,h1⟩:=w7 _ h
 rw [vq] at h
 split at h
 · rename_i hok
   obtain ⟨e,st,h,h2⟩:=xfl _ h
   cases e with
   | exit id=>exact h.elim
   | normal =>
     obtain ⟨v,os',h,h3⟩:=xvd _ h
     exact ⟨_,_,h,fun k' h'=>h1 _ (by rw [vq]; simp only [hok]; exact h2 _ (h3 _ h'))⟩
   | ret =>
     obtain ⟨v,os',h,h3⟩:=xvd _ h
     exact ⟨_,_,h,fun k' h'=>h1 _ (by rw [vq]; simp only [hok]; exact h2 _ (h3 _ h'))⟩
 · exact h.elim
theorem xhm (hE:tabB E=true) (hm:E.P.follows .mixedOrders=true) {f:Nat} {fn:Func} {ins:List (Mode × TV)} {K:TV→List TV→Prop} (hf:E.P.funcs[f]?=some fn) (hk:okFn fn ins.length=true)
 (h:fnVc E fn (fn.body.getD .skip) (enumF 0 ins) K):∃ res outs,K res outs∧Sem E.P f ins outs res:=by
 obtain ⟨res,outs,h1,h2⟩:=xw5 _ h
 exact ⟨res,outs,h1,xvc hE hm hf hk (h2 _ ⟨rfl,rfl⟩)⟩
end
end Go.AM
end
