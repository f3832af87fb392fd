/- The laws FnMsgOk, FnSitFree: part 1 of 41. No conditions beyond the statement. -/
import Derived.WalkKit
import Derived.Below
import Derived.Orders
import Derived.Laws.AppendOwn
import Derived.Laws.MakeOwn
import Derived.Laws.OwnMore
import Derived.KernelRfl
import Derived.Lib.LaidTab
import Derived.Lib.ItoaNum
import Derived.Great.FillDense
import Derived.Laws.AppendOwnNone
import Derived.Laws.IdiomStrings
set_option linter.unusedVariables false
set_option linter.unusedSimpArgs false
set_option maxRecDepth 100000
set_option maxHeartbeats 16000000
section
abbrev xzh:=@List.getElem?_eq_getElem
abbrev xzi:=@List.length_map
abbrev xzj:=@Bool.and_eq_true
abbrev xzk:=@decide_eq_true_eq
abbrev xzl:=@List.all_eq_true
abbrev xzm:=@List.getElem?_eq_some_iff
abbrev xzn:=@List.mem_cons
abbrev xzo:=@List.getD_eq_getElem?_getD
abbrev xzp:=@List.mem_cons_of_mem
abbrev xzq:=@List.mem_singleton
abbrev xzr:=@List.getElem?_map
abbrev xzs:=@List.mem_append
abbrev xzt:=@List.mem_append_left
abbrev xzu:=@List.length_append
abbrev xzv:=@List.mem_map
abbrev xzw:=@decide_eq_false_iff_not
abbrev xzx:=@List.take_of_length_le
abbrev xzy:=@List.mem_of_getElem?
abbrev xzz:=@List.mem_append_right
abbrev xz0:=@Option.map_eq_some_iff
abbrev xz1:=@Nat.zero_le
abbrev xz2:=@Nat.eq_of_beq_eq_true
abbrev xz3:=@List.length_take
abbrev xz4:=@List.length_nil
abbrev xz5:=@List.mem_cons_self
abbrev xz6:=@List.length_cons
abbrev xz7:=@List.getElem?_take
abbrev xz8:=@List.getElem?_append_right
abbrev xz9:=@Int.toNat_natCast
abbrev x0a:=@List.getElem?_append_left
abbrev x0b:=@Nat.mul_le_mul_right
abbrev x0c:=@List.append_assoc
abbrev x0d:=@List.map_cons
abbrev x0e:=@List.length_singleton
abbrev x0f:=@Option.some.inj
abbrev x0g:=@Option.some.injEq
abbrev x0h:=@List.mem_iff_getElem
abbrev x0i:=@List.mem_flatMap
abbrev x0j:=@List.nodup_append
abbrev x0k:=@List.eq_nil_of_length_eq_zero
abbrev x0l:=@List.append_nil
abbrev x0m:=@List.getElem_mem
abbrev x0n:=@Option.isSome_iff_exists
abbrev x0o:=@List.not_mem_nil
abbrev x0p:=@List.getElem?_drop
abbrev x0q:=@List.map_append
abbrev x0r:=@Nat.le_refl
abbrev x0s:=@Array.getD_eq_getD_getElem?
abbrev x0t:=@Array.getElem?_eq_some_iff
abbrev x0u:=@List.mem_of_mem_take
abbrev x0v:=@Nat.le_of_ble_eq_true
abbrev x0w:=@Array.getElem?_toList
abbrev x0x:=@List.nodup_cons
abbrev x0y:=@Option.map_some
abbrev x0z:=@Nat.not_lt_zero
abbrev x00:=@beq_eq_false_iff_ne
abbrev x01:=@List.flatten_cons
abbrev x02:=@Array.length_toList
abbrev x03:=@List.length_set
abbrev x04:=@Bool.or_eq_true
abbrev x05:=@Bool.not_eq_true'
abbrev x06:=@List.map_congr_left
abbrev x07:=@List.flatten_append
abbrev x08:=@List.mem_flatten
abbrev x09:=@List.nodup_nil
abbrev x1a:=@List.eq_of_mem_replicate
abbrev x1b:=@List.flatMap_append
abbrev x1c:=@Nat.lt_of_lt_of_le
abbrev x1d:=@beq_iff_eq
abbrev x1e:=@List.take_length
abbrev x1f:=@List.mem_iff_getElem?
abbrev x1g:=@Nat.succ_mul
abbrev x1h:=@Bool.true_and
abbrev x1i:=@cond_true
abbrev x1j:=@of_decide_eq_true
abbrev x1k:=@Nat.min_eq_left
abbrev x1l:=@List.mem_or_eq_of_mem_set
abbrev x1m:=@Nat.add_assoc
abbrev x1n:=@List.mem_of_mem_drop
abbrev x1o:=@List.flatMap_cons
abbrev x1p:=@List.isEmpty_iff
abbrev x1q:=@Int.emod_lt_of_pos
abbrev x1r:=@Nat.le_trans
abbrev x1s:=@Array.toArray_toList
abbrev x1t:=@List.size_toArray
abbrev x1u:=@List.map_take
abbrev x1v:=@Option.getD_some
abbrev x1w:=@List.mem_reverse
abbrev x1x:=@List.drop_eq_nil_of_le
abbrev x1y:=@List.map_set
abbrev x1z:=@List.getElem?_eq_none
abbrev x10:=@List.take_append_drop
abbrev x11:=@Bool.eq_iff_iff
abbrev x12:=@Int.emod_nonneg
abbrev x13:=@List.all_cons
abbrev x14:=@List.take_add_one
abbrev x15:=@List.pairwise_iff_getElem
abbrev x16:=@List.drop_eq_getElem_cons
abbrev x17:=@if_false
abbrev x18:=@List.map_nil
abbrev x19:=@Int.toNat_of_nonneg
abbrev x2a:=@List.countP_append
abbrev x2b:=@Int.mul_le_mul_of_nonneg_right
abbrev x2c:=@gt_iff_lt
abbrev x2d:=@Int.natCast_add
abbrev x2e:=@Int.natCast_one
abbrev x2f:=@or_false
abbrev x2g:=@Int.mul_le_mul_of_nonneg_left
abbrev x2h:=@List.ext_getElem?
abbrev x2i:=@Nat.beq_refl
abbrev x2j:=@Bool.not_false
abbrev x2k:=@List.map_map
abbrev x2l:=@List.getElem?_toArray
abbrev x2m:=@List.countP_le_length
abbrev x2n:=@Bool.and_self
abbrev x2o:=@List.eraseIdx_of_length_le
abbrev x2p:=@Int.one_mul
abbrev x2q:=@List.Sublist.append
abbrev x2r:=@Array.getElem?_eq_getElem
abbrev x2s:=@Classical.byContradiction
abbrev x2t:=@List.sublist_append_right
abbrev x2u:=@Bool.false_eq_true
abbrev x2v:=@Nat.succ_pos
abbrev x2w:=@cond_false
abbrev x2x:=@decide_eq_true
abbrev x2y:=@Bool.and_false
abbrev x2z:=@List.getElem?_replicate
abbrev x20:=@List.Sublist.refl
abbrev x21:=@List.map_id
abbrev x22:=@Array.getElem?_eq_none
abbrev x23:=@Int.add_mul
abbrev x24:=@Bool.and_true
abbrev x25:=@Prod.mk.injEq
abbrev x26:=@Bool.or_false
abbrev x27:=@List.filter_cons
abbrev x28:=@Array.toList_map
abbrev x29:=@and_true
abbrev x3a:=@List.getElem?_zipWith
abbrev x3b:=@Nat.div_lt_iff_lt_mul
abbrev x3c:=@List.length_replicate
abbrev x3d:=@Bool.and_eq_false_iff
abbrev x3e:=@List.cons.injEq
abbrev x3f:=@Array.ext'
abbrev x3g:=@Int.ediv_nonneg
abbrev x3h:=@Int.zero_sub
abbrev x3i:=@decide_eq_false
abbrev x3j:=@Bool.or_eq_false_iff
abbrev x3k:=@Function.comp_apply
abbrev x3l:=@List.reverse_append
abbrev x3m:=@List.getElem?_range
abbrev x3n:=@List.drop_drop
abbrev x3o:=@Nat.add_mul
abbrev x3p:=@Int.le_refl
abbrev x3q:=@of_decide_eq_false
abbrev x3r:=@Nat.lt_or_gt_of_ne
abbrev x3s:=@List.pairwise_cons
abbrev x3t:=@Bool.not_true
abbrev x3u:=@List.any_cons
abbrev x3v:=@Bool.or_assoc
abbrev x3w:=@Array.size_append
abbrev x3x:=@Bool.not_eq_false
abbrev x3y:=@Bool.or_true
abbrev x3z:=@Bool.not_eq_true
abbrev x30:=@List.cons_append
abbrev x31:=@Nat.add_zero
abbrev x32:=@List.flatten_nil
abbrev x33:=@Int.ediv_le_self
namespace Go.AM
open Go
inductive AV where
 | undef
 | na
 | prim (v:Value)
 | emp (t:Nat)
 | sl (t:Nat) (rows:List (List AV))
 | fr (ns:List Nat) (t:Nat) (rows:List (List AV))
 | ref (n:Nat)
 | ptr (n:Nat) (i:Nat) (off:Nat)
 | fp (ns:List Nat) (row:List AV) (off:Nat)
 | fn (f:Nat) (caps:List AV)
 deriving Inhabited
inductive TV where
 | one (v:AV)
 | agg (cs:List AV)
 | tup (vs:List (Bool × List AV))
 deriving Inhabited
inductive Ob where
 | box (row:List AV)
 | arr (t:Nat) (rows:List (List AV)) (pin:Bool)
 deriving Inhabited
structure St where
 t:List (Nat × TV)
 s:List (Nat × Ob)
 u:List Nat
def lk {α:Type}:List (Nat × α)->Nat->Option α
 | [],_=>none
 | (j,v)::r,i=>bif Nat.beq j i then some v else lk r i
def St.T (st:St) (i:Nat):Option TV:=lk st.t i
def St.O (st:St) (n:Nat):Option Ob:=lk st.s n
def St.has (st:St) (n:Nat):Prop:=(st.O n).isSome=true
inductive Rd (P:Program) (w:World) (S:Nat->Prop):AV->Value->Prop
 | prim {v:Value} (h:v.oneCell'=true):Rd P w S (.prim v) v
 | emp {t:Nat}:Rd P w S (.emp t) (.slice none 0 0)
 | sl {t:Nat} {rows:List (List AV)} {a:Option Addr} {len cap:Nat} {cells:List Value}
    (hm:rows.length<=1125899906842624) (hl:len=rows.length) (hcap:len<=cap)
    (hw:∀ row∈rows,row.length=P.cellsOf t)
    (hn:cells.length=rows.length*P.cellsOf t)
    (hb:rows≠[]->∃ b o,a=some ⟨b,o,none⟩/\S b)
    (hc:∀ b o k x,a=some ⟨b,o,none⟩->cells[k]?=some x->w.cell? ⟨b,o+k,none⟩=some x)
    (hr:∀ (k:Nat) (av:AV) (x:Value),rows.flatten[k]?=some av->cells[k]?=some x->Rd P w S av x) :
    Rd P w S (.sl t rows) (.slice a len cap)
 | fr {ns:List Nat} {t:Nat} {rows:List (List AV)} {v:Value} (h:Rd P w S (.sl t rows) v):Rd P w S (.fr ns t rows) v
 | fp {ns:List Nat} {row:List AV} {off b o:Nat} {cells:List Value} (hb:S b) (hn:cells.length=row.length)
    (hc:∀ k x,cells[k]?=some x->w.cell? ⟨b,o+k,none⟩=some x)
    (hr:∀ (k:Nat) (av:AV) (x:Value),row[k]?=some av->cells[k]?=some x->Rd P w S av x) :
    Rd P w S (.fp ns row off) (.pointer (some ⟨b,o+off,none⟩))
 | fn {f:Nat} {caps:List AV} {arr:List Value} (hn:arr.length=caps.length)
    (hr:∀ (k:Nat) (av:AV) (x:Value),caps[k]?=some av->arr[k]?=some x->Rd P w S av x) :
    Rd P w S (.fn f caps) (.func (.func f) #[] arr.toArray)
inductive Ow (P:Program) (w:World) (Z:Nat->Prop):AV->Value->List Nat->Prop
 | prim {v:Value} (h:v.oneCell'=true):Ow P w Z (.prim v) v []
 | fr0 {t:Nat} {rows:List (List AV)} {v:Value} (h:Rd P w Z (.sl t rows) v):Ow P w Z (.fr [] t rows) v []
 | sl {t:Nat} {rows:List (List AV)} {v:Value} {cells:List Value} {fs:List (List Nat)}
    (hm:rows.length<=1125899906842624)
    (hw:∀ row∈rows,row.length=P.cellsOf t)
    (ho:w.ownsRow 0 t (P.cellsOf t) v rows.length cells)
    (hf:fs.length=cells.length)
    (hr:∀ (k:Nat) (av:AV) (x:Value) (f:List Nat),rows.flatten[k]?=some av->cells[k]?=some x->fs[k]?=some f->Ow P w Z av x f) :
    Ow P w Z (.sl t rows) v (v.ownBlock.toList++fs.flatten)
 | fp {row:List AV} {b o:Nat} {c:Array Value} {ty:Nat} {fs:List (List Nat)} (hb:w.heap[b]?=some (.cells c ty (0,0)))
    (hn:o+row.length<=c.size) (hf:fs.length=row.length)
    (hr:∀ (k:Nat) (av:AV) (x:Value) (f:List Nat),row[k]?=some av->c[o+k]?=some x->fs[k]?=some f->Ow P w Z av x f) :
    Ow P w Z (.fp [] row 0) (.pointer (some ⟨b,o,none⟩)) (b::fs.flatten)
def Ows (P:Program) (w:World) (Z:Nat->Prop) (avs:List AV) (xs:List Value) (f:List Nat):Prop :=
 ∃
  fs:List (List Nat),f=fs.flatten/\fs.length=avs.length/\xs.length=avs.length /\
  ∀ (k:Nat) (av:AV) (x:Value) (g:List Nat),avs[k]?=some av->xs[k]?=some x->fs[k]?=some g->Ow P w Z av x g
def Rds (P:Program) (w:World) (S:Nat->Prop) (avs:List AV) (xs:List Value):Prop :=
 xs.length=avs.length/\∀ (k:Nat) (av:AV) (x:Value),avs[k]?=some av->xs[k]?=some x->Rd P w S av x
inductive Mode where
 | pure|own|mut|io (lo hi:Nat)
 deriving Inhabited
structure Io where
 b:Nat
 o:Nat
 m:List Bool
def Io.can (i:Io) (k:Nat):Prop:=i.o<=k/\i.m[k - i.o]?=some true
def AV.isNa:AV->Bool
 | .na=>true
 | _=>false
structure Frm (w w':World) (own:List Nat) (io:Option Io):Prop where
 os:w'.os=w.os
 tape:w'.tape=w.tape
 output:w'.output=w.output
 size:w.heap.size<=w'.heap.size
 blk:∀ k,k<w.heap.size->k ∉ own->(∀ i,io=some i->k≠i.b)->w'.heap[k]?=w.heap[k]?
 iob:∀ i,io=some i->∃ (c c':Array Value) (ty:Nat),w.heap[i.b]?=some (.cells c ty (0,0))/\w'.heap[i.b]?=some (.cells c' ty (0,0))/\c'.size=c.size /\
  ∀ k,¬ i.can k->c'[k]?=c[k]?
def IoR (P:Program) (w:World) (Z:Nat->Prop) (i:Io) (row:List AV) (f:List Nat):Prop :=
 i.m=row.map (fun av=>!av.isNa)/\∃ (c:Array Value) (ty:Nat) (fs:List (List Nat)),w.heap[i.b]?=some (.cells c ty (0,0))/\i.o+row.length<=c.size/\fs.length=row.length/\f=fs.flatten /\
  ∀ (k:Nat) (av:AV) (g:List Nat),row[k]?=some av->fs[k]?=some g->(av=.na/\g=[])\/∃ x,c[i.o+k]?=some x/\Ow P w Z av x g
inductive InR (P:Program) (w:World) (Z:Nat->Prop) (io:Option Io):Mode->TV->Value->List Nat->Prop
 | pone {av:AV} {x:Value} (h:Rd P w Z av x):InR P w Z io .pure (.one av) x []
 | pagg {cs:List AV} {xs:List Value} (h:Rds P w Z cs xs):InR P w Z io .pure (.agg cs) (.agg xs.toArray) []
 | oone {av:AV} {x:Value} {f:List Nat} (h:Ow P w Z av x f):InR P w Z io .own (.one av) x f
 | oagg {cs:List AV} {xs:List Value} {f:List Nat} (h:Ows P w Z cs xs f):InR P w Z io .own (.agg cs) (.agg xs.toArray) f
 | mone {av:AV} {x:Value} {f:List Nat} (h:Ow P w Z av x f):InR P w Z io .mut (.one av) x f
 | magg {cs:List AV} {xs:List Value} {f:List Nat} (h:Ows P w Z cs xs f):InR P w Z io .mut (.agg cs) (.agg xs.toArray) f
 | io {lo hi:Nat} {row:List AV} {i:Io} {f:List Nat} (he:io=some i) (h:IoR P w Z i row f) :
    InR P w Z io (.io lo hi) (.agg row) (.pointer (some ⟨i.b,i.o,none⟩)) f
inductive InsR (P:Program) (w:World) (Z:Nat->Prop) (io:Option Io):List (Mode × TV)->List Value->List Nat->Prop
 | nil:InsR P w Z io [] [] []
 | cons {m:Mode} {v:TV} {x:Value} {f:List Nat} {r:List (Mode × TV)} {xs:List Value} {g:List Nat} (h:InR P w Z io m v x f) (t:InsR P w Z io r xs g) :
    InsR P w Z io ((m,v)::r) (x::xs) (f++g)
inductive ResR (P:Program) (w:World) (Z:Nat->Prop):TV->Value->List Nat->Prop
 | one {av:AV} {x:Value} {f:List Nat} (h:Ow P w Z av x f):ResR P w Z (.one av) x f
 | agg {cs:List AV} {xs:List Value} {f:List Nat} (h:Ows P w Z cs xs f):ResR P w Z (.agg cs) (.agg xs.toArray) f
 | tup {vs:List (Bool × List AV)} {xs:List Value} {fs:List (List Nat)} (hx:xs.length=vs.length) (hf:fs.length=vs.length)
    (h:∀ (k:Nat) (a:Bool) (cs:List AV) (x:Value) (f:List Nat),vs[k]?=some (a,cs)->xs[k]?=some x->fs[k]?=some f ->
      ∃ ys:List Value,Ows P w Z cs ys f/\x=bif a then .agg ys.toArray else ys.getD 0 undef):ResR P w Z (.tup vs) (.tuple xs.toArray) fs.flatten
inductive OutsR (P:Program) (w:World) (Z:Nat->Prop) (io:Option Io):List (Mode × TV)->List Value->List TV->List Nat->Prop
 | nil:OutsR P w Z io [] [] [] []
 | pure {v:TV} {x:Value} {r:List (Mode × TV)} {xs:List Value} {outs:List TV} {g:List Nat} (t:OutsR P w Z io r xs outs g) :
    OutsR P w Z io ((.pure,v)::r) (x::xs) outs g
 | own {v:TV} {x:Value} {r:List (Mode × TV)} {xs:List Value} {outs:List TV} {g:List Nat} (t:OutsR P w Z io r xs outs g) :
    OutsR P w Z io ((.own,v)::r) (x::xs) outs g
 | mone {v:TV} {av:AV} {x:Value} {f:List Nat} {r:List (Mode × TV)} {xs:List Value} {outs:List TV} {g:List Nat} (h:Ow P w Z av x f) (t:OutsR P w Z io r xs outs g) :
    OutsR P w Z io ((.mut,v)::r) (x::xs) (.one av::outs) (f++g)
 | magg {v:TV} {cs:List AV} {ys:List Value} {f:List Nat} {r:List (Mode × TV)} {xs:List Value} {outs:List TV} {g:List Nat} (h:Ows P w Z cs ys f) (t:OutsR P w Z io r xs outs g) :
    OutsR P w Z io ((.mut,v)::r) (.agg ys.toArray::xs) (.agg cs::outs) (f++g)
 | io {lo hi:Nat} {v:TV} {row:List AV} {x:Value} {i:Io} {f:List Nat} {r:List (Mode × TV)} {xs:List Value} {outs:List TV} {g:List Nat} (he:io=some i) (h:IoR P w Z i row f) (t:OutsR P w Z io r xs outs g) :
    OutsR P w Z io ((.io lo hi,v)::r) (x::xs) (.agg row::outs) (f++g)
def Post (P:Program) (w:World) (Z:Nat->Prop) (io:Option Io) (ins:List (Mode × TV)) (vals:List Value) (fin:List Nat) (outs:List TV) (res:TV) (v:Value) (w':World):Prop :=
 ∃
  (Z':Nat->Prop) (f g:List Nat),Frm w w' fin io/\(∀ b,Z b->Z' b) /\
  (∀ b,Z' b->(Z b\/b∈fin\/w.heap.size<=b)/\b<w'.heap.size/\∀ i,io=some i->b≠i.b) /\
  ResR P w' Z' res v f/\OutsR P w' Z' io ins vals outs g/\(f++g).Nodup /\
  ∀ b∈f++g,(b∈fin\/w.heap.size<=b)/\b<w'.heap.size/\¬ Z' b/\∀ i,io=some i->b≠i.b
def Facts (P:Program) (w:World):Prop :=
 w.ShapedOpen P /\
 (P.globalNamed "internal/strconv.uint64pow10" ≠ none → Lib.TabIs P w "internal/strconv.uint64pow10" .u64 Lib.pow10Tab) ∧
 (P.globalNamed "strconv.ErrSyntax" ≠ none → ∃ tp p, w.var? P "strconv.ErrSyntax" = some #[.iface tp p]) ∧
 (P.globalNamed "strconv.ErrRange" ≠ none → ∃ tp p, w.var? P "strconv.ErrRange" = some #[.iface tp p])
def GOk (P:Program) (w:World) (Z:Nat->Prop):Prop:=∃ w0:World,Facts P w0/\∀ b,b<P.globals.size->Z b/\w.heap[b]?=w0.heap[b]?
theorem GOk.mono {P:Program} {w w':World} {Z Z':Nat->Prop} (h:GOk P w Z) (hZ:∀ b,Z b->Z' b) (hw:∀ b,Z b->w'.heap[b]?=w.heap[b]?):GOk P w' Z':=by
 obtain ⟨w0,h1,h2⟩:=h;exact ⟨w0,h1,fun b hb=>⟨hZ b (h2 b hb).1,(hw b (h2 b hb).1).trans (h2 b hb).2⟩⟩
def Sem (P:Program) (f:Nat) (ins:List (Mode × TV)) (outs:List TV) (res:TV):Prop :=
 (∃ fn, P.funcs[f]? = some fn ∧ fn.body.isNone = false ∧ (fn.name == "runtime.NumGoroutine") = false) ∧ ∀ (w : World) (Z : Nat → Prop) (io : Option Io) (vals : List Value) (fin : List Nat), GOk P w Z → InsR P w Z io ins vals fin → (io = none ∨ ∃ lo hi v, (Mode.io lo hi, v) ∈ ins) → fin.Nodup →
   (∀ b∈fin,b<w.heap.size/\¬ Z b/\∀ i,io=some i->b≠i.b)->(∀ b,Z b->b<w.heap.size/\∀ i,io=some i->b≠i.b) ->
   Calls P f vals.toArray w fun e w'=>∃ v,e=.returned v/\Post P w Z io ins vals fin outs res v w'
end Go.AM
end
section
namespace Go.AM
open Go
inductive TD where
 | sc
 | slice (e:Nat)
 | ptr (e:Nat)
 | strct (fs:List (Nat × Nat))
 deriving Inhabited
structure TI where
 d:TD
 n:Nat
 z:List AV
 deriving Inhabited
structure Env where
 P:Program
 T:List (Nat × TI)
 M:List (Nat × List Mode)
 cut:List Nat
 keep:List Nat
 fz:List (Nat × List Nat)
structure Pk where
 rt:List (Nat × TV)
 ro:List (Nat × Ob)
 val:TV
 put:List (Nat × Ob)
 del:List Nat
def fAV (v:AV) (k:AV->Prop):Prop :=
 match v with
 | .undef=>k .undef
 | .na=>k .na
 | .prim v=>k (.prim v)
 | .emp t=>k (.emp t)
 | .sl t r=>k (.sl t r)
 | .fr ns t r=>k (.fr ns t r)
 | .ref n=>k (.ref n)
 | .ptr n i o=>k (.ptr n i o)
 | .fp ns r o=>k (.fp ns r o)
 | .fn f c=>k (.fn f c)
def fAVs:List AV->(List AV->Prop)->Prop
 | [],k=>k []
 | a::r,k=>fAV a fun a'=>fAVs r fun r'=>k (a'::r')
def fParts:List (Bool × List AV)->(List (Bool × List AV)->Prop)->Prop
 | [],k=>k []
 | (b,cs)::r,k=>fAVs cs fun cs'=>fParts r fun r'=>k ((b,cs')::r')
def fTV (v:TV) (k:TV->Prop):Prop :=
 match v with
 | .one a=>fAV a fun a'=>k (.one a')
 | .agg cs=>fAVs cs fun cs'=>k (.agg cs')
 | .tup vs=>fParts vs fun vs'=>k (.tup vs')
def fTs:List (Nat × TV)->(List (Nat × TV)->Prop)->Prop
 | [],k=>k []
 | (i,v)::r,k=>fTV v fun v'=>fTs r fun r'=>k ((i,v')::r')
def fOb (o:Ob) (k:Ob->Prop):Prop :=
 match o with
 | .box row=>fAVs row fun row'=>k (.box row')
 | .arr t rows p=>k (.arr t rows p)
def fOs:List (Nat × Ob)->(List (Nat × Ob)->Prop)->Prop
 | [],k=>k []
 | (n,o)::r,k=>fOb o fun o'=>fOs r fun r'=>k ((n,o')::r')
theorem kx (v:AV) (k:AV->Prop):fAV v k=k v:=by cases v<;>rfl
theorem xq (l:List AV):∀ k:List AV->Prop,fAVs l k=k l:=by
 induction l with
 | nil=>intro k; rfl
 | cons a r ih=>intro k; simp only [fAVs,kx,ih]
theorem xsd (l:List (Bool × List AV)):∀ k:List (Bool × List AV)->Prop,fParts l k=k l:=by
 induction l with
 | nil=>intro k; rfl
 | cons a r ih=>obtain ⟨b,cs⟩:=a; intro k; simp only [fParts,xq,ih]
theorem zp (v:TV) (k:TV->Prop):fTV v k=k v:=by cases v<;>simp only [fTV,kx,xq,xsd]
theorem xd2 (l:List (Nat × TV)):∀ k:List (Nat × TV)->Prop,fTs l k=k l:=by
 induction l with
 | nil=>intro k; rfl
 | cons a r ih=>obtain ⟨b,cs⟩:=a; intro k; simp only [fTs,zp,ih]
theorem xx7 (o:Ob) (k:Ob->Prop):fOb o k=k o:=by cases o<;>simp only [fOb,xq]
theorem x5 (l:List (Nat × Ob)):∀ k:List (Nat × Ob)->Prop,fOs l k=k l:=by
 induction l with
 | nil=>intro k; rfl
 | cons a r ih=>obtain ⟨b,cs⟩:=a; intro k; simp only [fOs,xx7,ih]
def memN (n:Nat):List Nat->Bool
 | []=>false
 | m::r=>bif Nat.beq m n then true else memN n r
def hitN:List Nat->List Nat->Bool
 | [],_=>false
 | n::r,ks=>bif memN n ks then true else hitN r ks
def AV.tag1 (ks:List Nat):AV->Bool
 | .fr ns _ _=>hitN ns ks
 | .fp ns _ _=>hitN ns ks
 | _=>false
def anyTag (ks:List Nat):List AV->Bool
 | []=>false
 | a::r=>bif a.tag1 ks then true else anyTag ks r
def AV.drop (ks:List Nat) (v:AV):AV :=
 match v with
 | .fr ns t r=>bif hitN ns ks then .undef else .fr ns t r
 | .fp ns r o=>bif hitN ns ks then .undef else .fp ns r o
 | .fn f caps=>bif anyTag ks caps then .undef else .fn f caps
 | v=>v
def TV.drop (ks:List Nat):TV->TV
 | .one v=>.one (v.drop ks)
 | .agg cs=>.agg (cs.map (AV.drop ks))
 | .tup vs=>.tup (vs.map fun p=>(p.1,p.2.map (AV.drop ks)))
def Ob.drop (ks:List Nat):Ob->Ob
 | .box row=>.box (row.map (AV.drop ks))
 | .arr t rows p=>.arr t rows p
def dropTs (ks:List Nat) (l:List (Nat × TV)):List (Nat × TV):=l.map fun p=>(p.1,p.2.drop ks)
def dropOs (ks:List Nat) (l:List (Nat × Ob)):List (Nat × Ob):=l.map fun p=>(p.1,p.2.drop ks)
def without (ks:List Nat) (l:List (Nat × Ob)):List (Nat × Ob):=l.filter fun p=>!memN p.1 ks
def names (l:List (Nat × Ob)):List Nat:=l.map (·.1)
def olds (st:St) (l:List (Nat × Ob)):List Nat:=(names l).filter fun n=>(lk st.s n).isSome
def apply (st:St) (dst:Option Nat) (uid:Nat) (pk:Pk):St :=
 let ks:=olds st pk.put++pk.del
 {
  t:=(match dst with|some d=>(d,pk.val)::dropTs ks st.t|none=>dropTs ks st.t),
  s:=pk.put++without (names pk.put++pk.del) (dropOs ks st.s),
  u:=uid::st.u }
def fNs:List Nat->(List Nat->Prop)->Prop
 | [],k=>k []
 | n::r,k=>fNs r fun r'=>k (n::r')
theorem we:∀ (l:List Nat) (k:List Nat->Prop),fNs l k=k l
 | [],_=>rfl
 | n::r,k=>we r _
def namesR {α:Type}:List (Nat × α)->List Nat
 | []=>[]
 | (n,_)::r=>n::namesR r
theorem ka {α:Type}:∀ (l:List (Nat × α)),namesR l=l.map (·.1)
 | []=>rfl
 | (n,o)::r=>by rw [namesR,ka r]; rfl
def mapR {α:Type} (f:α->α):List (Nat × α)->List (Nat × α)
 | []=>[]
 | (n,o)::r=>(n,f o)::mapR f r
theorem xid {α:Type} (f:α->α):∀ (l:List (Nat × α)),mapR f l=l.map fun p=>(p.1,f p.2)
 | []=>rfl
 | (n,o)::r=>by rw [mapR,xid f r]; rfl
def withoutR (ks:List Nat):List (Nat × Ob)->List (Nat × Ob)
 | []=>[]
 | (n,o)::r=>bif memN n ks then withoutR ks r else (n,o)::withoutR ks r
theorem xb1 (ks:List Nat):∀ (l:List (Nat × Ob)),withoutR ks l=without ks l
 | []=>rfl
 |
  (n,o)::r=>by
  simp only [withoutR,without,x27,xb1 ks r];cases memN n ks<;>rfl
def hasR (s:List (Nat × Ob)):List Nat->List Nat
 | []=>[]
 | n::r=>match lk s n with
   | some _=>n::hasR s r
   | none=>hasR s r
theorem xie (s:List (Nat × Ob)):∀ (l:List Nat),hasR s l=l.filter fun n=>(lk s n).isSome
 | []=>rfl
 | n::r=>by
   simp only [hasR,x27,xie s r];cases lk s n<;>rfl
def applyK (st:St) (dst:Option Nat) (uid:Nat) (pk:Pk) (k:St->Prop):Prop :=
 match pk.put,pk.del with
 | [],[]=>match st,dst with
   | ⟨t,s,u⟩,some d=>fTV pk.val fun v=>k ⟨(d,v)::t,s,uid::u⟩
   | ⟨t,s,u⟩,none=>k ⟨t,s,uid::u⟩
 | put,del=>match st with
   |
    ⟨t,s,u⟩=>fNs (namesR put) fun ns=>fNs (hasR s ns++del) fun ks=>fTs (mapR (TV.drop ks) t) fun t'=>fOs (put++withoutR (ns++del) (mapR (Ob.drop ks) s)) fun s'=>match dst with
    | some d=>fTV pk.val fun v=>k ⟨(d,v)::t',s',uid::u⟩
    | none=>k ⟨t',s',uid::u⟩
def tvCells:TV->List AV
 | .one v=>[v]
 | .agg cs=>cs
 | .tup _=>[]
def takeC:Nat->List AV->List AV
 | 0,_=>[]
 | n+1,a::r=>a::takeC n r
 | _+1,[]=>[]
def dropC:Nat->List AV->List AV
 | 0,l=>l
 | n+1,_::r=>dropC n r
 | _+1,[]=>[]
def splice (row:List AV) (off:Nat) (cs:List AV):List AV:=takeC off row++cs++dropC (off+cs.length) row
def lenIs:List AV->Nat->Bool
 | [],0=>true
 | _::r,n+1=>lenIs r n
 | _,_=>false
def leLen:Nat->List AV->Bool
 | 0,_=>true
 | n+1,_::r=>leLen n r
 | _+1,[]=>false
def isAggD:TD->Bool
 | .strct _=>true
 | _=>false
def mkTV (ag:Bool) (cs:List AV):TV :=
 bif ag then .agg cs else match cs with
  | [v]=>.one v
  | _=>.one .undef
def embox (n:Nat):List AV->List AV × List (Nat × Ob)
 | []=>([],[])
 | .emp t::r=>let (a,b):=embox (n+1) r; (.ref n::a,(n,.arr t [] false)::b)
 | c::r=>let (a,b):=embox (n+1) r; (c::a,b)
def allB (f:AV->Bool):List AV->Bool
 | []=>true
 | a::r=>bif f a then allB f r else false
def noNa:AV->Bool
 | .na=>false
 | _=>true
def keepsB (n:Nat):AV->Bool
 | .fn _ caps=>!anyTag [n] caps
 | a=>!a.tag1 [n]
def rowCells (st:St):List AV->List Nat->(List AV->List (Nat × Ob)->List Nat->Prop)->Prop
 | [],del,k=>k [] [] del
 | .prim v::r,del,k=>rowCells st r del fun cs ro d=>k (.prim v::cs) ro d
 | .emp t::r,del,k=>rowCells st r del fun cs ro d=>k (.sl t []::cs) ro d
 | .fr [] t rows::r,del,k=>rowCells st r del fun cs ro d=>k (.fr [] t rows::cs) ro d
 | .ref m::r,del,k=>match memN m del,lk st.s m with
    | false,some (.arr t rows false)=>rowCells st r (m::del) fun cs ro d=>k (.sl t rows::cs) ((m,.arr t rows false)::ro) d
    | _,_=>False
 | _::_,_,_=>False
def deE:List AV->List AV
 | []=>[]
 | .emp t::r=>.fr [] t []::deE r
 | a::r=>a::deE r
def rowsOf (st:St) (n:Nat):List (List AV)->List Nat->(List (List AV)->List (Nat × Ob)->List Nat->Prop)->Prop
 | [],del,k=>k [] [] del
 | cs::r,del,k=>match lenIs cs n with
    | true=>rowCells st (deE cs) del fun row ro d=>rowsOf st n r d fun rows ro' d'=>k (row::rows) (ro++ro') d'
    | false=>False
def peek0 (ns:List Nat):AV->AV
 | .sl t rows=>.fr ns t rows
 | .prim v=>.prim v
 | .fr _ t rows=>.fr ns t rows
 | .emp t=>.emp t
 | .fp _ row o=>.fp ns row o
 | _=>.undef
def peek (ns:List Nat):AV->AV
 | .fn f caps=>.fn f (caps.map (peek0 ns))
 | a=>peek0 ns a
def peekA (n:Nat):AV->AV
 | .sl t rows=>.fr [n] t rows
 | .prim v=>.prim v
 | .fr [] t rows=>.fr [] t rows
 | _=>.undef
section
variable (E:Env)
def tyI (t:Nat) (k:TI->Prop):Prop:=match lk E.T t with
 | some ti=>k ti
 | none=>False
def tyE (t:Nat) (k:Nat->Prop):Prop:=match lk E.T t with
 | some ⟨.slice e,_,_⟩=>k e
 | _=>False
def getX (st:St) (ty:Nat) (x:Operand) (k:List (Nat × TV)->TV->Prop):Prop :=
 match x with
 | .tmp i=>match lk st.t i with
   | some v=>k [(i,v)] v
   | none=>False
 | .const v=>match v with
   | .slice none 0 0=>tyE E ty fun e=>k [] (.one (.emp e))
   | .slice ..|.agg _|.tuple _|.map _|.chan _|.iface ..|.func ..=>False
   | v=>k [] (.one (.prim v))
 | .func f=>k [] (.one (.fn f []))
 | .global _=>False
def getXs (st:St):List (Nat × Operand)->(List (Nat × TV)->List TV->Prop)->Prop
 | [],k=>k [] []
 | (ty,x)::r,k=>getX E st ty x fun rt v=>getXs st r fun rt' vs=>k (rt++rt') (v::vs)
def kB:IntKind->IntKind->Bool
 | .i8,.i8|.i16,.i16|.i32,.i32|.i64,.i64|.u8,.u8|.u16,.u16|.u32,.u32|.u64,.u64=>true
 | _,_=>false
def isBoolT (ti:TI):Bool:=match ti.d,ti.z with
 | .sc,[.prim (.bool _)]=>true
 | _,_=>false
def binV (isB:Bool) (op:BinOp) (x y:Value) (k:Value->Prop):Prop :=
 match x,y with
 | .int j a,.int j' b =>
   match kB j j',op with
   | true,.add=>∃ c,j.wrap (a+b)=c/\k (.int j c)
   | true,.sub=>∃ c,j.wrap (a - b)=c/\k (.int j c)
   | true,.mul=>∃ c,j.wrap (a*b)=c/\k (.int j c)
   | true,.quo=>b≠0/\∃ c,j.wrap (a.tdiv b)=c/\k (.int j c)
   | true,.rem=>b≠0/\∃ c,a.tmod b=c/\k (.int j c)
   | true,.xor=>∃ c,j.wrap (BitVec.ofInt j.bits a ^^^ BitVec.ofInt j.bits b).toNat=c/\k (.int j c)
   | true,.eql=>k (.bool (a == b))
   | true,.neq=>k (.bool (a != b))
   | true,.lss=>k (.bool (decide (a<b)))
   | true,.leq=>k (.bool (decide (a<=b)))
   | true,.gtr=>k (.bool (decide (a>b)))
   | true,.geq=>k (.bool (decide (a>=b)))
   | _,_=>False
 | .bool a,.bool b =>
   match isB,op with
   | true,.eql=>k (.bool (a == b))
   | true,.neq=>k (.bool (!(a == b)))
   | _,_=>False
 | .string a,.string b =>
   match op with
   | .add=>((a.size+b.size:Nat):Int)<=9223372036854775807/\k (.string (a++b))
   | .eql=>k (.bool (a.toList == b.toList))
   | .neq=>k (.bool (!(a.toList == b.toList)))
   | _=>False
 | _,_=>False
def unV (op:UnOp) (x:Value) (k:Value->Prop):Prop :=
 match op,x with
 | .neg,.int j a=>∃ c,j.wrap (0 - a)=c/\k (.int j c)
 | .not,.bool a=>k (.bool (!a))
 | _,_=>False
def alive (st:St):List Nat->(List (Nat × Ob)->Prop)->Prop
 | [],k=>k []
 | n::r,k=>match lk st.s n with
   | some o=>alive st r fun ro=>k ((n,o)::ro)
   | none=>False
def liveC (st:St):List AV->(List (Nat × Ob)->Prop)->Prop
 | [],k=>k []
 | .prim _::r,k=>liveC st r k
 | .emp _::r,k=>liveC st r k
 | .fn ..::r,k=>liveC st r k
 | .fr ns _ _::r,k=>alive st ns fun ro=>liveC st r fun ro'=>k (ro++ro')
 | .fp ns _ _::r,k=>alive st ns fun ro=>liveC st r fun ro'=>k (ro++ro')
 | .ptr n _ _::r,k=>alive st [n] fun ro=>liveC st r fun ro'=>k (ro++ro')
 | .ref n::r,k=>match lk st.s n with
   | some (.arr t rows p)=>liveC st r fun ro'=>k ((n,.arr t rows p)::ro')
   | _=>False
 | _,_=>False
def oneC (st:St) (v:TV) (k:List (Nat × Ob)->Prop):Prop :=
 match v with
 | .one a=>liveC st [a] k
 | .agg _=>k []
 | .tup _=>False
def lend1 (st:St) (v:AV) (k:AV->List Nat->List (Nat × Ob)->Prop):Prop :=
 match v with
 | .prim v=>k (.prim v) [] []
 | .emp t=>k (.sl t []) [] []
 | .fr ns t rows=>alive st ns fun ro=>k (.sl t rows) ns ro
 | .fp ns row o=>alive st ns fun ro=>k (.fp [] row o) ns ro
 | .ref n=>match lk st.s n with
   | some (.arr t rows p)=>k (.sl t rows) [n] [(n,.arr t rows p)]
   | _=>False
 | _=>False
def lends (st:St):List AV->(List AV->List Nat->List (Nat × Ob)->Prop)->Prop
 | [],k=>k [] [] []
 | v::r,k=>lend1 st v fun a ns ro=>lends st r fun as1 ns' ro'=>k (a::as1) (ns++ns') (ro++ro')
def lendCap0 (st:St) (v:AV) (k:AV->List Nat->List (Nat × Ob)->Prop):Prop :=
 match v with
 | .ptr n 0 o=>match lk st.s n with
   | some (.box row)=>lends st row fun row' ns ro=>k (.fp [] row' o) (n::ns) ((n,.box row)::ro)
   | _=>False
 | v=>lend1 st v k
def lendCaps0 (st:St):List AV->(List AV->List Nat->List (Nat × Ob)->Prop)->Prop
 | [],k=>k [] [] []
 | v::r,k=>lendCap0 st v fun a ns ro=>lendCaps0 st r fun as1 ns' ro'=>k (a::as1) (ns++ns') (ro++ro')
def lendB (st:St):List AV->(List AV->List Nat->List (Nat × Ob)->Prop)->Prop
 | [],k=>k [] [] []
 | .fn f caps::r,k=>lendCaps0 st caps fun cs ns ro=>lendB st r fun as1 ns' ro'=>k (.fn f cs::as1) (ns++ns') (ro++ro')
 | v::r,k=>lend1 st v fun a ns ro=>lendB st r fun as1 ns' ro'=>k (a::as1) (ns++ns') (ro++ro')
def lendCap (st:St) (v:AV) (k:AV->List Nat->List (Nat × Ob)->Prop):Prop :=
 match v with
 | .ptr n 0 o=>match lk st.s n with
   | some (.box row)=>lendB st row fun row' ns ro=>k (.fp [] row' o) (n::ns) ((n,.box row)::ro)
   | _=>False
 | v=>lend1 st v k
def lendCaps (st:St):List AV->(List AV->List Nat->List (Nat × Ob)->Prop)->Prop
 | [],k=>k [] [] []
 | v::r,k=>lendCap st v fun a ns ro=>lendCaps st r fun as1 ns' ro'=>k (a::as1) (ns++ns') (ro++ro')
def lendV (st:St) (v:TV) (k:TV->List Nat->List (Nat × Ob)->Prop):Prop :=
 match v with
 | .one (.fn f caps)=>lendCaps st caps fun cs ns ro=>k (.one (.fn f cs)) ns ro
 | .one (.ptr n i o)=>lendCap st (.ptr n i o) fun a ns ro=>k (.one a) ns ro
 | .one a=>lend1 st a fun a' ns ro=>k (.one a') ns ro
 | .agg cs=>lends st cs fun cs' ns ro=>k (.agg cs') ns ro
 | .tup _=>False
def allPrim (rows:List (List AV)):Prop:=∀ row∈rows,∀ a∈row,∃ v,a=.prim v
def allSh (rows:List (List AV)):Prop:=∀ row∈rows,∀ a∈row,(∃ v,a=.prim v)\/∃ t r,a=.fr [] t r
def maskIo (lo hi:Nat):Nat->List AV->List AV
 | _,[]=>[]
 | k,c::r=>(bif Nat.ble lo k then (bif Nat.blt k hi then c else .na) else .na)::maskIo lo hi (k+1) r
def maskS (lo:Nat):Nat->List AV->List AV
 | 0,l=>l
 | hi+1,l=>maskIo lo (hi+1) 0 l
def naP:AV->AV
 | .na=>.prim (.bool true)
 | a=>a
def unmask:List AV->List AV->List AV->List AV
 | .na::bs,o::os,_::ns=>o::unmask bs os ns
 | _::bs,_::os,n::ns=>n::unmask bs os ns
 | _,_,_=>[]
def ioBox (st:St):List AV->List Nat->(List AV->List Nat->List (Nat × Ob)->List Nat->Prop)->Prop
 | [],del,k=>k [] [] [] del
 | .na::r,del,k=>ioBox st r del fun cs ns ro d=>k (.na::cs) ns ro d
 | .prim x::r,del,k=>ioBox st r del fun cs ns ro d=>k (.prim x::cs) ns ro d
 | .fr ns t rows::r,del,k=>alive st ns fun ro0=>ioBox st r del fun cs ns' ro d=>k (.fr [] t rows::cs) (ns++ns') (ro0++ro) d
 | .ref m::r,del,k=>match memN m del,lk st.s m with
   | false,some (.arr t rows false)=>ioBox st r (m::del) fun cs ns ro d=>k (.sl t rows::cs) ns ((m,.arr t rows false)::ro) d
   | _,_=>False
 | _::_,_,_=>False
def arrC:AV->Bool
 | .prim _|.sl ..|.fr [] _ _=>true
 | _=>false
def arrBack (lent:List Nat):List AV->Prop->Prop
 | [],k=>k
 | .prim _::r,k=>arrBack lent r k
 | .sl t rows::r,k=>match lent with
   | []=>arrBack lent r k
   | _=>allPrim rows/\arrBack lent r k
 | .fr [] _ _::r,k=>match lent with
   | []=>arrBack lent r k
   | _=>False
 | _,_=>False
def keepsL (ks:List Nat):AV->Bool
 | .fn _ caps=>!anyTag ks caps
 | a=>!a.tag1 ks
def fresh (kp:Bool) (lent:List Nat):Nat->List AV->List AV × List (Nat × Ob)
 | _,[]=>([],[])
 | n,.sl t rows::r=>let p:=fresh kp lent (n+1) r
   bif kp then (.ref n::p.1,(n,.arr t rows false)::p.2) else (.fr lent t rows::p.1,p.2)
 | n,.fr [] t rows::r=>let p:=fresh kp lent (n+1) r; (.fr lent t rows::p.1,p.2)
 | n,.prim v::r=>let p:=fresh kp lent (n+1) r; (.prim v::p.1,p.2)
 | n,_::r=>let p:=fresh kp lent (n+1) r; (.undef::p.1,p.2)
def keptOk (kp:Bool) (lent:List Nat):List AV->Prop->Prop
 | [],k=>k
 | .sl t rows::r,k=>match kp,lent with
   | true,_::_=>allPrim rows/\keptOk kp lent r k
   | _,_=>keptOk kp lent r k
 | _::r,k=>keptOk kp lent r k
def regroup:List (Bool × List AV)->List AV->List (Bool × List AV)
 | [],_=>[]
 | (a,cs)::r,l=>(a,takeC cs.length l)::regroup r (dropC cs.length l)
def freshV (kp:Bool) (lent:List Nat) (n:Nat):TV->TV × List (Nat × Ob)
 | .one (.fp [] row 0)=>let p:=fresh kp lent (n+1) row; (.one (.ptr n 0 0),(n,.box p.1)::p.2)
 | .one v=>let p:=fresh kp lent n [v]; (mkTV false p.1,p.2)
 | .agg cs=>let p:=fresh kp lent n cs; (.agg p.1,p.2)
 | .tup vs=>let p:=fresh kp lent n (vs.flatMap (·.2)); (.tup (regroup vs p.1),p.2)
def keptV (kp:Bool) (lent:List Nat) (v:TV) (k:Prop):Prop :=
 match v with
 | .one (.fp [] row 0)=>keptOk kp lent row k
 | .one v=>keptOk kp lent [v] k
 | .agg cs=>keptOk kp lent cs k
 | .tup vs=>keptOk kp lent (vs.flatMap (·.2)) k
def gath (st:St):List Mode->List TV->List Nat->(List (Mode × TV)->List Nat->List (Nat × Ob)->List Nat->Prop)->Prop
 | _,[],del,k=>k [] [] [] del
 | ms,v::r,del,k =>
   match ms.headD .pure,v with
   | .own,.one a=>rowCells st [a] del fun cs ro d=>gath st ms.tail r d fun ins lent ro' d'=>k ((.own,mkTV false cs)::ins) lent (ro++ro') d'
   | .own,.agg as1=>rowCells st as1 del fun cs ro d=>gath st ms.tail r d fun ins lent ro' d'=>k ((.own,.agg cs)::ins) lent (ro++ro') d'
   | .pure,v=>lendV st v fun v' ns ro=>gath st ms.tail r del fun ins lent ro' d'=>k ((.pure,v')::ins) (ns++lent) (ro++ro') d'
   | _,_=>False
def namesIn (uid:Nat):List (Nat × Ob)->Bool
 | []=>true
 | (n,_)::r=>bif Nat.beq (n / 64) uid then namesIn uid r else false
def ptyI (t:Nat) (k:TI->Prop):Prop:=match lk E.T t with
 | some ti=>match ti.d with
   | .ptr e=>tyI E e k
   | _=>k ti
 | none=>False
def callIoP (st:St) (uid:Nat) (f:Nat) (ty:Nat) (lo hi:Nat) (rt:List (Nat × TV)) (ms:List Mode) (a:TV) (r:List TV) (k:Pk->Prop):Prop :=
 match a with
 | .one (.ptr n i off)=>ptyI E ty fun ti=>match lk st.s n with
   | some (.box row)=>match i,leLen (off+ti.n) row with
     | 0,true=>ioBox st (maskS lo hi (takeC ti.n (dropC off row))) [] fun cs ns ro d=>gath st ms r d fun ins lent ro' d'=>match hitN (n::d') (ns++lent) with
       | false=>∃ bs res,Sem E.P f ((.io 0 0,.agg cs)::ins) [.agg bs] res/\keptOk true (ns++lent) (bs.map naP) (keptV (memN uid E.keep) (ns++lent) res (
          let q:=fresh true (ns++lent) (uid*64+32) (bs.map naP);let p:=freshV (memN uid E.keep) (ns++lent) (uid*64) res
          fAVs (splice row off (unmask bs (takeC ti.n (dropC off row)) q.1)) fun row'=>match allB (keepsL (n::d')) row',namesIn uid q.2,namesIn uid p.2 with
           | true,true,true=>fTV p.1 fun v=>fOs (q.2++p.2) fun os=>k { rt,ro:=(n,.box row)::(ro++ro'),val:=v,put:=(n,.box row')::os,del:=d' }
           | _,_,_=>False))
       | true=>False
     | _,_=>False
   | some (.arr t rows p)=>∃ row,rows[i]?=some row/\match leLen (off+ti.n) row,allB arrC (takeC ti.n (dropC off row)) with
     | true,true=>gath st ms r [] fun ins lent ro d=>match hitN (n::d) lent with
       | false=>∃ bs res,Sem E.P f ((.io 0 0,.agg (takeC ti.n (dropC off row)))::ins) [.agg bs] res/\arrBack lent bs (keptV (memN uid E.keep) lent res (
          let p':=freshV (memN uid E.keep) lent (uid*64) res
          match namesIn uid p'.2 with
          | true=>fAVs (splice row off bs) fun row'=>fTV p'.1 fun v=>fOs p'.2 fun os=>k { rt,ro:=(n,.arr t rows p)::ro,val:=v,put:=(n,.arr t (rows.set i row') p)::os,del:=d }
          | false=>False))
       | true=>False
     | _,_=>False
   | none=>False
 | _=>False
def callP (st:St) (uid:Nat) (f:Nat) (ty:Nat) (rt:List (Nat × TV)) (args:List TV) (k:Pk->Prop):Prop :=
 match (lk E.M f).getD [],args with
 | .io lo hi::ms,a::r=>callIoP E st uid f ty lo hi rt ms a r k
 | ms,args=>gath st ms args [] fun ins lent ro d=>match hitN d lent with
   | false=>∃ res,Sem E.P f ins [] res/\keptV (memN uid E.keep) lent res (
      let p:=freshV (memN uid E.keep) lent (uid*64) res
      match namesIn uid p.2 with
      | true=>fTV p.1 fun v=>fOs p.2 fun os=>k { rt,ro,val:=v,put:=os,del:=d }
      | false=>False)
   | true=>False
def partsB:Nat->List (Nat × Operand)->Bool
 | _,[]=>true
 | i,(j,_)::r=>bif Nat.beq i j then partsB (i+1) r else false
def fieldOf:List (Nat × Nat)->Nat->Option (Nat × Nat)
 | [],_=>none
 | f::_,0=>some f
 | _::r,n+1=>fieldOf r n
def buildC (st:St) (fs:List (Nat × Nat)):List (Nat × Operand)->List AV->(List (Nat × TV)->List (Nat × Ob)->List AV->Prop)->Prop
 | [],cs,k=>k [] [] cs
 |
  (i,x)::r,cs,k=>match fieldOf fs i with
  | some (off,ft)=>tyI E ft fun ti=>getX E st ft x fun rt v=>match lenIs (tvCells v) ti.n,leLen (off+ti.n) cs with
    | true,true=>oneC st v fun ro=>fAVs (splice cs off (tvCells v)) fun cs'=>buildC st fs r cs' fun rt' ro' cs''=>k (rt++rt') (ro++ro') cs''
    | _,_=>False
  | none=>False
def bytesRows (l:List UInt8):List (List AV):=l.map fun b=>[.prim (.int .u8 b.toNat)]
def frzOk (rows:List (List AV)):Prop:=∀ row∈rows,∀ a∈row,(∃ v,a=.prim v)\/(∃ t r,a=.sl t r)\/∃ t r,a=.fr [] t r
def frz:AV->AV
 | .sl t rows=>.fr [] t rows
 | v=>v
def capsC:List TV->(List AV->Prop)->Prop
 | [],k=>k []
 | .one (.ptr n i off)::r,k=>capsC r fun cs=>k (.ptr n i off::cs)
 | _,_=>False
def opP (uid:Nat) (st:St) (o:Oper) (k:Pk->Prop):Prop :=
 match o.op with
 | .move x=>getX E st o.type x fun rt v=>k ⟨rt,[],v,[],[]⟩
 | .assign x=>getX E st o.type x fun rt v=>match v with
   | .one (.emp t)=>k ⟨rt,[],.one (.ref (uid*64)),[(uid*64,.arr t [] false)],[]⟩
   | v=>k ⟨rt,[],v,[],[]⟩
 | .pick c a b=>getX E st o.type c fun rt v=>match v with
   | .one (.prim (.bool true))=>getX E st o.type a fun rt' v'=>k ⟨rt++rt',[],v',[],[]⟩
   | .one (.prim (.bool false))=>getX E st o.type b fun rt' v'=>k ⟨rt++rt',[],v',[],[]⟩
   | _=>False
 | .alloc e=>tyI E e fun ti=>let p:=embox (uid*64+1) ti.z
    fAVs p.1 fun row=>fOs p.2 fun os=>k ⟨[],[],.one (.ptr (uid*64) 0 0),(uid*64,.box row)::os,[]⟩
 | .box e x=>getX E st e x fun rt v=>match v with
   | .tup _=>False
   | v=>tyI E e fun ti=>match lenIs (tvCells v) ti.n with
     | true=>let p:=embox (uid*64+1) (tvCells v)
       liveC st (tvCells v) fun ro=>fAVs p.1 fun row=>fOs p.2 fun os=>k ⟨rt,ro,.one (.ptr (uid*64) 0 0),(uid*64,.box row)::os,[]⟩
     | false=>False
 | .build t parts=>match lk E.T t with
   | some ⟨.strct fs,_,z⟩=>buildC E st fs parts.toList z fun rt ro cs=>k ⟨rt,ro,.agg cs,[],[]⟩
   | _=>False
 | .buildSlice t n parts=>tyE E t fun e=>tyI E e fun ti=>match Nat.beq parts.size n && Nat.ble n 4096,partsB 0 parts.toList with
   | true,true=>getXs E st (parts.toList.map fun p=>(e,p.2)) fun rt vs=>rowsOf st ti.n (vs.map tvCells) [] fun rows ro d =>
      k ⟨rt,ro,.one (.ref (uid*64)),[(uid*64,.arr e rows false)],d⟩
   | _,_=>False
 | .load t x=>tyI E t fun ti=>getX E st t x fun rt v=>match v with
   | .one (.ptr n i off)=>match lk st.s n with
     | some (.box row)=>match leLen (off+ti.n) row,i,allB noNa (takeC ti.n (dropC off row)) with
       | true,0,true=>fAVs (takeC ti.n (dropC off row)) fun cs=>k ⟨rt,[(n,.box row)],mkTV (isAggD ti.d) cs,[],[]⟩
       | _,_,_=>False
     | some (.arr te rows p)=>∃ row,rows[i]?=some row/\match leLen (off+ti.n) row with
       | true=>fAVs ((takeC ti.n (dropC off row)).map (peekA n)) fun cs=>k ⟨rt,[(n,.arr te rows p)],mkTV (isAggD ti.d) cs,[],[]⟩
       | false=>False
     | none=>False
   | .one (.fp ns row off)=>match leLen (off+ti.n) row with
     | true=>alive st ns fun ro=>fAVs ((takeC ti.n (dropC off row)).map (peek ns)) fun cs=>k ⟨rt,ro,mkTV (isAggD ti.d) cs,[],[]⟩
     | false=>False
   | _=>False
 | .store t x v=>tyI E t fun ti=>getX E st t x fun rt a=>getX E st t v fun rt' v=>match a,lenIs (tvCells v) ti.n with
   | .one (.ptr n i off),true=>match lk st.s n with
     | some (.box row)=>match leLen (off+ti.n) row,i,allB noNa (takeC ti.n (dropC off row)) with
       | true,0,true=>let p:=embox (uid*64+1) (tvCells v)
         liveC st (tvCells v) fun ro=>fAVs (splice row off p.1) fun row'=>match allB (keepsB n) row' with
          | true=>fOs p.2 fun os=>k ⟨rt++rt',(n,.box row)::ro,.one .undef,(n,.box row')::os,[]⟩
          | false=>False
       | _,_,_=>False
     | some (.arr te rows p)=>∃ row,rows[i]?=some row/\match leLen (off+ti.n) row with
       | true=>rowCells st (deE (tvCells v)) [n] fun cs ro d=>fAVs (splice row off cs) fun row' =>
          k ⟨rt++rt',(n,.arr te rows p)::ro,.one .undef,[(n,.arr te (rows.set i row') p)],d.filter (fun m=>!Nat.beq m n)⟩
       | false=>False
     | none=>False
   | _,_=>False
 | .nilCheck x=>getX E st o.type x fun rt v=>match v with
   | .one (.ptr n i off)=>match lk st.s n with
     | some ob=>k ⟨rt,[(n,ob)],.one (.ptr n i off),[],[]⟩
     | none=>False
   | .one (.fp ns row off)=>alive st ns fun ro=>k ⟨rt,ro,.one (.fp ns row off),[],[]⟩
   | _=>False
 | .binOp op t x y ty=>getX E st t x fun rt a=>getX E st ty y fun rt' b=>match a,b with
   | .one (.prim a),.one (.prim b)=>tyI E t fun ti=>binV (isBoolT ti) op a b fun c=>k ⟨rt++rt',[],.one (.prim c),[],[]⟩
   | _,_=>False
 | .unOp op t x=>getX E st t x fun rt a=>match a with
   | .one (.prim a)=>unV op a fun c=>k ⟨rt,[],.one (.prim c),[],[]⟩
   | _=>False
 | .convert src dst x=>tyI E src fun _=>getX E st src x fun rt a=>tyI E dst fun ti=>match ti.d,ti.z,a with
   | .sc,[.prim (.int j _)],.one (.prim (.int _ n))=>∃ c,j.wrap n=c/\k ⟨rt,[],.one (.prim (.int j c)),[],[]⟩
   | .sc,[.prim (.string _)],.one (.prim (.string s))=>k ⟨rt,[],.one (.prim (.string s)),[],[]⟩
   | .sc,[.prim (.string _)],.one (.ref n)=>match lk st.s n with
     | some (.arr t rows p)=>tyE E src fun e=>tyI E e fun ei=>match ei.d,ei.z with
       | .sc,[.prim (.int .u8 _)]=>∃ l:List UInt8,rows=bytesRows l/\k ⟨rt,[(n,.arr t rows p)],.one (.prim (.string ⟨l.toArray⟩)),[],[]⟩
       | _,_=>False
     | _=>False
   | _,_,_=>False
 | .makeFunc fn first caps=>match fn,first with
   | .func f,⟨[]⟩=>getXs E st (caps.toList.map fun x=>(0,x)) fun rt vs=>capsC vs fun cs=>k ⟨rt,[],.one (.fn f cs),[],[]⟩
   | _,_=>False
 | .makeSlice t l c=>tyE E t fun e=>tyI E e fun ti=>getX E st t l fun rt a=>getX E st t c fun rt' b=>match a,b with
   | .one (.prim (.int _ n)),.one (.prim (.int _ m))=>n=m/\0<=n/\n<=268435456/\rowCells st (deE ti.z) [] fun row ro d=>match ro,d with
      | [],[]=>k ⟨rt++rt',[],.one (.ref (uid*64)),[(uid*64,.arr e (List.replicate n.toNat row) false)],[]⟩
      | _,_=>False
   | _,_=>False
 | .slice t x lo hi mx=>match mx with
   | some mo=>match hi with
     | none=>False
     | some hi=>getX E st t x fun rt v=>getX E st t (lo.getD (.const (.int .i64 0))) fun rt1 a=>getX E st t hi fun rt2 b=>getX E st t mo fun rt3 c=>match v with
       | .one (.fr ns te rows)=>tyE E t fun e=>tyI E e fun _=>alive st ns fun ro=>match a,b,c,Nat.beq te e with
         | .one (.prim (.int _ l)),.one (.prim (.int _ h)),.one (.prim (.int _ m)),true=>0<=l/\l<=h/\h<=rows.length/\m=rows.length/\k ⟨rt++rt1++rt2++rt3,ro,.one (.fr ns te ((rows.take h.toNat).drop l.toNat)),[],[]⟩
         | _,_,_,_=>False
       | _=>False
   | none=>getX E st t x fun rt v =>
     let lo':=lo.getD (.const (.int .i64 0))
     getX E st t lo' fun rt1 a=>match a with
     | .one (.prim (.int _ l)) =>
       match v with
       | .one (.prim (.string s))=>tyI E t fun ti=>match ti.d,ti.z with
        | .sc,[.prim (.string _)]=>getX E st t (hi.getD (.const (.int .i64 s.size))) fun rt2 b=>match b with
         | .one (.prim (.int _ h))=>0<=l/\l<=h/\h<=s.size/\k ⟨rt++rt1++rt2,[],.one (.prim (.string (s.extract l.toNat h.toNat))),[],[]⟩
         | _=>False
        | _,_=>False
       | .one (.fr ns te rows)=>tyE E t fun e=>tyI E e fun _=>alive st ns fun ro=>getX E st t (hi.getD (.const (.int .i64 rows.length))) fun rt2 b=>match b,Nat.beq te e with
         | .one (.prim (.int _ h)),true=>0<=l/\l<=h/\h<=rows.length/\k ⟨rt++rt1++rt2,ro,.one (.fr ns te ((rows.take h.toNat).drop l.toNat)),[],[]⟩
         | _,_=>False
       | .one (.ref n)=>match lk st.s n with
         | some (.arr te rows p)=>tyE E t fun e=>tyI E e fun _=>getX E st t (hi.getD (.const (.int .i64 rows.length))) fun rt2 b=>match b,Nat.beq te e with
           | .one (.prim (.int _ h)),true=>0<=l/\l<=h/\h<=rows.length/\match memN uid E.cut,p with
             | true,false=>l=0/\k ⟨rt++rt1++rt2,[(n,.arr te rows p)],.one (.ref (uid*64)),[(uid*64,.arr te (rows.take h.toNat) false)],[n]⟩
             | _,_=>k ⟨rt++rt1++rt2,[(n,.arr te rows p)],.one (.fr [n] te ((rows.take h.toNat).drop l.toNat)),[],[]⟩
           | _,_=>False
         | _=>False
       | _=>False
     | _=>False
 | .fieldAddr s x f=>match lk E.T s with
   | some ⟨.strct fs,_,_⟩=>match fieldOf fs f with
     | some (fo,_)=>getX E st s x fun rt v=>match v with
       | .one (.ptr n i off)=>match lk st.s n with
         | some ob=>k ⟨rt,[(n,ob)],.one (.ptr n i (off+fo)),[],[]⟩
         | none=>False
       | .one (.fp ns row off)=>alive st ns fun ro=>k ⟨rt,ro,.one (.fp ns row (off+fo)),[],[]⟩
       | _=>False
     | none=>False
   | _=>False
 | .field s x f=>match lk E.T s with
   | some ⟨.strct fs,_,_⟩=>match fieldOf fs f with
     | some (fo,ft)=>tyI E ft fun ti=>getX E st s x fun rt v=>match v with
       | .agg cs=>match leLen (fo+ti.n) cs with
         | true=>fAVs (takeC ti.n (dropC fo cs)) fun cs'=>k ⟨rt,[],mkTV (isAggD ti.d) cs',[],[]⟩
         | false=>False
       | _=>False
     | none=>False
   | _=>False
 | .indexAddr t x ix=>getX E st t x fun rt v=>getX E st t ix fun rt' w=>match w with
   | .one (.prim (.int _ i))=>tyE E t fun e=>tyI E e fun _=>match v with
     | .one (.fr ns te rows)=>match Nat.beq te e with
       | true=>alive st ns fun ro=>0<=i/\∃ row,rows[i.toNat]?=some row/\k ⟨rt++rt',ro,.one (.fp ns row 0),[],[]⟩
       | false=>False
     | .one (.ref n)=>match lk st.s n with
       | some (.arr te rows p)=>match Nat.beq te e with
         | true=>0<=i/\i<rows.length/\k ⟨rt++rt',[(n,.arr te rows p)],.one (.ptr n i.toNat 0),[],[]⟩
         | false=>False
       | _=>False
     | _=>False
   | _=>False
 | .index t x ix=>getX E st t x fun rt v=>getX E st t ix fun rt' w=>match v,w with
   | .one (.prim (.string s)),.one (.prim (.int _ i))=>tyI E t fun ti=>match ti.d,ti.z with
    | .sc,[.prim (.string _)]=>0<=i/\∃ b,s[i.toNat]?=some b/\k ⟨rt++rt',[],.one (.prim (.int .u8 b.toNat)),[],[]⟩
    | _,_=>False
   | _,_=>False
 | .extract x i=>getX E st o.type x fun rt v=>match v with
   | .tup vs=>match vs[i]? with
     | some (a,cs)=>match a || lenIs cs 1 with
       | true=>k ⟨rt,[],mkTV a cs,[],[]⟩
       | false=>False
     | none=>False
   | _=>False
 | .call c=>match c.callee with
   | .builtin .len=>match c.args.toList,c.argTypes.toList with
     | [x],[t]=>getX E st t x fun rt v=>match v with
       | .one (.prim (.string s))=>tyI E t fun ti=>match ti.d,ti.z with
         | .sc,[.prim (.string _)]=>k ⟨rt,[],.one (.prim (.int .i64 s.size)),[],[]⟩
         | _,_=>False
       | .one (.fr ns _ rows)=>tyE E t fun _=>alive st ns fun ro=>k ⟨rt,ro,.one (.prim (.int .i64 rows.length)),[],[]⟩
       | .one (.emp _)=>tyE E t fun _=>k ⟨rt,[],.one (.prim (.int .i64 0)),[],[]⟩
       | .one (.ref n)=>tyE E t fun _=>match lk st.s n with
         | some (.arr te rows p)=>k ⟨rt,[(n,.arr te rows p)],.one (.prim (.int .i64 rows.length)),[],[]⟩
         | _=>False
       | _=>False
     | _,_=>False
   | .builtin .append=>match c.args.toList,c.argTypes.toList with
     | [x,y],[t,t']=>getX E st t x fun rt v=>getX E st t' y fun rt' w=>tyE E t fun e=>tyI E e fun _=>match Nat.beq t t',v with
       | true,.one (.ref n)=>match lk st.s n with
         | some (.arr te rows false)=>match Nat.beq te e with
          | false=>False
          | true=>match w with
           | .one (.ref m)=>match Nat.beq m n,lk st.s m with
             | false,some (.arr te' rows' false)=>match Nat.beq te te' with
               | true=>rows.length+rows'.length<=1048576/\match memN uid E.keep with
                 | true=>allSh rows'/\k ⟨rt++rt',[(n,.arr te rows false),(m,.arr te' rows' false)],.one (.ref (uid*64)),[(uid*64,.arr te (rows++rows') false)],[n]⟩
                 | false=>k ⟨rt++rt',[(n,.arr te rows false),(m,.arr te' rows' false)],.one (.ref (uid*64)),[(uid*64,.arr te (rows++rows') false)],[n,m]⟩
               | false=>False
             | _,_=>False
           | .one (.fr ns te' rows')=>alive st ns fun ro=>match Nat.beq te te',memN n ns with
             | true,false=>rows.length+rows'.length<=1048576 /\
               (
                (allPrim rows'/\k ⟨rt++rt',(n,.arr te rows false)::ro,.one (.ref (uid*64)),[(uid*64,.arr te (rows++rows') false)],[n]⟩) \/
                (ns=[]/\frzOk rows'/\k ⟨rt++rt',(n,.arr te rows false)::ro,.one (.ref (uid*64)),[(uid*64,.arr te (rows++rows'.map (List.map frz)) false)],[n]⟩))
             | _,_=>False
           | _=>False
         | _=>False
       | _,_=>False
     | _,_=>False
   | .value (.func f)=>getXs E st (c.argTypes.toList.zip c.args.toList) fun rt vs=>match lenIs (vs.map fun _=>.undef) c.args.size with
     | true=>callP E st uid f ((c.argTypes.toList).headD 0) rt vs k
     | false=>False
   | .value (.tmp i)=>match lk st.t i with
     | some (.one (.fn f caps))=>getXs E st (c.argTypes.toList.zip c.args.toList) fun rt vs=>match lenIs (vs.map fun _=>.undef) c.args.size with
       | true=>callP E st uid f ((c.argTypes.toList).headD 0) ((i,.one (.fn f caps))::rt) (vs++caps.map .one) k
       | false=>False
     | _=>False
   | _=>False
 | _=>False
def uniqN:List Nat->Bool
 | []=>true
 | n::r=>bif memN n r then false else uniqN r
def okPk (st:St) (uid:Nat) (pk:Pk):Bool :=
 match pk.put,pk.del with
 | [],[]=>true
 | put,del=>uniqN (names put) && !memN uid st.u && (names put).all (fun n=>(memN n (names pk.ro) && (lk st.s n).isSome) || Nat.beq (n / 64) uid) && del.all (fun n=>(lk st.s n).isSome && !memN n (names put))
def putOkR (s:List (Nat × Ob)) (uid:Nat) (ron:List Nat):List Nat->Bool
 | []=>true
 | n
    :: r=>bif Nat.beq (n / 64) uid then putOkR s uid ron r else bif memN n ron then match lk s n with
    | some _=>putOkR s uid ron r
    | none=>false
   else false
def delOkR (s:List (Nat × Ob)) (put:List Nat):List Nat->Bool
 | []=>true
 | n::r=>bif memN n put then false else match lk s n with
   | some _=>delOkR s put r
   | none=>false
def okPkR (st:St) (uid:Nat) (pk:Pk):Bool :=
 match pk.put,pk.del with
 | [],[]=>true
 | put,del=>match st with
   | ⟨_,s,u⟩=>bif uniqN (namesR put) then bif memN uid u then false else bif putOkR s uid (namesR pk.ro) (namesR put) then delOkR s (namesR put) del else false else false
theorem xb2 {s:List (Nat × Ob)} {uid:Nat} {ron:List Nat}:∀ {l:List Nat},putOkR s uid ron l=true->l.all (fun n=>(memN n ron && (lk s n).isSome) || Nat.beq (n / 64) uid)=true
 | [],_=>rfl
 | n::r,h=>by
   simp only [putOkR] at h;rw [x13]
   cases hb:Nat.beq (n / 64) uid with
   | true=>rw [hb] at h; simp only [x1i] at h; rw [xb2 h,x3y,x24]
   | false =>
     rw [hb] at h;simp only [x2w] at h
     cases hm:memN n ron with
     | false=>rw [hm] at h; cases h
     | true =>
       rw [hm] at h;simp only [x1i] at h
       cases hl:lk s n with
       | none=>rw [hl] at h; cases h
       | some o=>rw [hl] at h; rw [xb2 h]; rfl
theorem xfn {s:List (Nat × Ob)} {put:List Nat}:∀ {l:List Nat},delOkR s put l=true->l.all (fun n=>(lk s n).isSome && !memN n put)=true
 | [],_=>rfl
 | n::r,h=>by
   simp only [delOkR] at h;rw [x13]
   cases hm:memN n put with
   | true=>rw [hm] at h; cases h
   | false =>
     rw [hm] at h;simp only [x2w] at h
     cases hl:lk s n with
     | none=>rw [hl] at h; cases h
     | some o=>rw [hl] at h; rw [xfn h]; rfl
theorem xu4 {st:St} {uid:Nat} {pk:Pk} (h:okPkR st uid pk=true):okPk st uid pk=true:=by
 have key:(bif uniqN (namesR pk.put) then bif memN uid st.u then false else bif putOkR st.s uid (namesR pk.ro) (namesR pk.put) then delOkR st.s (namesR pk.put) pk.del else false else false)=true\/(pk.put=[]/\pk.del=[]):=by
  obtain ⟨t,s,u⟩:=st;obtain ⟨a1,a2,a3,put,del⟩:=pk;unfold okPkR at h;simp only at h
  cases put<;>cases del<;>first|exact .inr ⟨rfl,rfl⟩|exact .inl h
 unfold okPk;rcases key with h|⟨h1,h2⟩
 · split
   · rfl
   · simp only [ka] at h;cases h1:uniqN (pk.put.map (·.1))<;>rw [h1] at h
     · cases h
     · cases h2:memN uid st.u<;>rw [h2] at h
       · simp only [x1i,x2w] at h;cases h3:putOkR st.s uid (pk.ro.map (·.1)) (pk.put.map (·.1))<;>rw [h3] at h
         · cases h
         · simp only [x1i] at h;have h4:=xb2 h3;have h5:=xfn h;unfold names;rw [h1];exact Bool.and_eq_true_iff.2 ⟨Bool.and_eq_true_iff.2 ⟨rfl,h4⟩,h5⟩
       · cases h
 · rw [h1,h2]
structure Foot where
 i:Nat
 d:Option Nat
 rt:List Nat
 ro:List Nat
 wr:List Nat
 tg:List Nat
 vt:List Nat
 dt:List Nat
 dob:List Nat
def tags1:AV->List Nat
 | .fr ns _ _=>ns
 | .fp ns _ _=>ns
 | _=>[]
def AV.tags:AV->List Nat
 | .fn _ caps=>caps.flatMap tags1
 | a=>tags1 a
def TV.tags:TV->List Nat
 | .one a=>a.tags
 | .agg cs=>cs.flatMap AV.tags
 | .tup vs=>vs.flatMap fun p=>p.2.flatMap AV.tags
def Ob.tags:Ob->List Nat
 | .box row=>row.flatMap AV.tags
 | .arr ..=>[]
def dirtyT (ks:List Nat) (l:List (Nat × TV)):List Nat:=match ks with
 | []=>[]
 | ks=>(l.filter fun p=>hitN p.2.tags ks).map (·.1)
def dirtyO (ks:List Nat) (l:List (Nat × Ob)):List Nat:=match ks with
 | []=>[]
 | ks=>(l.filter fun p=>hitN p.2.tags ks).map (·.1)
def footOf (i:Nat) (o:Oper) (g:List Nat) (st:St) (pk:Pk):Foot :=
 ⟨i,o.dst,g++pk.rt.map (·.1),names pk.ro,names pk.put++pk.del,(pk.rt.flatMap fun p=>p.2.tags)++pk.ro.flatMap fun p=>p.2.tags,
   pk.val.tags++pk.put.flatMap fun p=>p.2.tags,dirtyT (olds st pk.put++pk.del) st.t,dirtyO (olds st pk.put++pk.del) st.s⟩
def tagsTR:List (Nat × TV)->List Nat
 | []=>[]
 | (_,v)::r=>v.tags++tagsTR r
def tagsOR:List (Nat × Ob)->List Nat
 | []=>[]
 | (_,v)::r=>v.tags++tagsOR r
def dirtyR {α:Type} (g:α->List Nat) (ks:List Nat):List (Nat × α)->List Nat
 | []=>[]
 | (i,v)::r=>bif hitN (g v) ks then i::dirtyR g ks r else dirtyR g ks r
theorem xi1:∀ l:List (Nat × TV),tagsTR l=l.flatMap fun p=>p.2.tags
 | []=>rfl
 | (i,v)::r=>by rw [tagsTR,xi1 r,x1o]
theorem xi2:∀ l:List (Nat × Ob),tagsOR l=l.flatMap fun p=>p.2.tags
 | []=>rfl
 | (i,v)::r=>by rw [tagsOR,xi2 r,x1o]
theorem xi3 {α:Type} (g:α->List Nat) (ks:List Nat):∀ l:List (Nat × α),dirtyR g ks l=(l.filter fun p=>hitN (g p.2) ks).map (·.1)
 | []=>rfl
 |
  (i,v)::r=>by
  simp only [dirtyR,x27,xi3 g ks r];cases hitN (g v) ks<;>rfl
def footK (i:Nat) (o:Oper) (g:List Nat) (st:St) (pk:Pk) (k:Foot->Prop):Prop :=
 fNs (g++namesR pk.rt) fun rt=>fNs (namesR pk.ro) fun ro=>fNs (namesR pk.put) fun ns=>fNs (ns++pk.del) fun wr=>fNs (tagsTR pk.rt++tagsOR pk.ro) fun tg=>fNs (pk.val.tags++tagsOR pk.put) fun vt =>
  match st with
  |
   ⟨t,s,_⟩=>fNs (hasR s ns++pk.del) fun ks=>match ks with
   | []=>k ⟨i,o.dst,rt,ro,wr,tg,vt,[],[]⟩
   | ks=>fNs (dirtyR TV.tags ks t) fun dt=>fNs (dirtyR Ob.tags ks s) fun dob=>k ⟨i,o.dst,rt,ro,wr,tg,vt,dt,dob⟩
theorem xgd (i:Nat) (o:Oper) (g:List Nat) (st:St) (pk:Pk) (k:Foot->Prop):footK i o g st pk k=k (footOf i o g st pk):=by
 obtain ⟨t,s,u⟩:=st;unfold footK footOf olds;simp only [we,ka,xi1,xi2,xie,xi3];unfold names dirtyT dirtyO
 split
 · rename_i h; simp only [h]
 · rename_i ks h; simp only [h]
def stepK (uid:Nat) (st:St) (o:Oper) (k:St->Pk->Prop):Prop :=
 opP E uid st o fun pk=>match okPkR st uid pk with
  | true=>applyK st o.dst uid pk fun st'=>k st' pk
  | false=>False
def ifB (b:Bool) (p q:Prop):Prop:=match b with
 | true=>p
 | false=>q
theorem xa {b:Bool} {p q:Prop} (h:b=true->p) (h':b=false->q):ifB b p q:=by cases b; exact h' rfl; exact h rfl
theorem xd {c:Prop} [Decidable c] {p q:Prop} (h:c->p) (h':¬c->q):ifB (decide c) p q:=xa (fun e=>h (x1j e)) (fun e=>h' (x3q e))
def setK (st:St) (d:Option Nat) (v:TV) (k:St->Prop):Prop:=match st,d with
 | ⟨t,s,u⟩,some d=>k ⟨(d,v)::t,s,u⟩
 | ⟨t,s,u⟩,none=>k ⟨t,s,u⟩
def guardD (ops:List Oper) (j:Nat):Option Nat:=match ops[j]? with
 | some o=>o.dst
 | none=>none
def vcOps (all:List Oper) (rid:Nat):List Oper->Nat->St->(St->List Foot->Prop)->Prop
 | [],_,st,k=>k st []
 | o::r,i,st,k =>
   let run (st:St) (g:List Nat):Prop:=stepK E ((rid+1)*1000+i) st o fun st' pk=>footK i o g st pk fun ft=>vcOps all rid r (i+1) st' fun st'' fs =>
    k st'' (ft::fs)
   match o.guard with
   | none=>run st []
   | some (j,want)=>match guardD all j with
     | some d=>match lk st.t d with
       | some (.one (.prim (.bool b))) =>
         let skip (st:St):Prop:=setK st o.dst (.tup []) fun st=>vcOps all rid r (i+1) st fun st'' fs=>k st'' (⟨i,o.dst,[d],[],[],[],[],[],[]⟩::fs)
         match want with
         | true=>ifB b (setK st (some d) (.one (.prim (.bool true))) fun st=>run st [d]) (setK st (some d) (.one (.prim (.bool false))) skip)
         | false=>ifB b (setK st (some d) (.one (.prim (.bool true))) skip) (setK st (some d) (.one (.prim (.bool false))) fun st=>run st [d])
       | some (.tup [])=>setK st o.dst (.tup []) fun st=>vcOps all rid r (i+1) st fun st'' fs=>k st'' (⟨i,o.dst,[d],[],[],[],[],[],[]⟩::fs)
       | _=>False
     | none=>False
def vcSeq (all:List Oper) (rid:Nat):List Oper->Nat->St->(St->Prop)->Prop
 | [],_,st,k=>k st
 | o::r,i,st,k =>
   match o.guard with
   | none=>stepK E ((rid+1)*1000+i) st o fun st' _=>vcSeq all rid r (i+1) st' k
   | some (j,want)=>match guardD all j with
     | some d=>match lk st.t d with
       | some (.one (.prim (.bool b)))=>match want with
         | true=>ifB b (setK st (some d) (.one (.prim (.bool true))) fun st=>stepK E ((rid+1)*1000+i) st o fun st' _=>vcSeq all rid r (i+1) st' k)
            (setK st (some d) (.one (.prim (.bool false))) fun st=>setK st o.dst (.tup []) fun st=>vcSeq all rid r (i+1) st k)
         | false=>ifB b (setK st (some d) (.one (.prim (.bool true))) fun st=>setK st o.dst (.tup []) fun st=>vcSeq all rid r (i+1) st k)
            (setK st (some d) (.one (.prim (.bool false))) fun st=>stepK E ((rid+1)*1000+i) st o fun st' _=>vcSeq all rid r (i+1) st' k)
       | some (.tup [])=>setK st o.dst (.tup []) fun st=>vcSeq all rid r (i+1) st k
       | _=>False
     | none=>False
def apart (p q:Foot):Bool :=
 (match p.d with|some d=>!memN d q.rt && !(match q.d with|some e=>Nat.beq d e|none=>false)|none=>true) &&
 (match q.d with|some d=>!memN d p.rt|none=>true) &&
 !hitN p.wr q.ro && !hitN p.wr q.wr && !hitN p.wr q.vt && !hitN q.wr p.ro && !hitN q.wr p.tg && !hitN q.wr p.vt && !hitN p.dt q.rt && !hitN p.dob q.ro
def waitsD (all:List Oper) (j i:Nat):Bool:=match all[j]? with
 | some o=>o.after.toList.any fun e=>Region.binds .any e && Nat.beq e.on i
 | none=>false
def waitsN (all:List Oper):Nat->Nat->Nat->Bool
 | 0,j,i=>waitsD all j i
 | n+1,j,i=>waitsD all j i || match all[j]? with
   | some o=>o.after.toList.any fun e=>Region.binds .any e && Nat.blt i e.on && waitsN all n e.on i
   | none=>false
def waits (all:List Oper) (j i:Nat):Bool:=waitsN all 3 j i
def drawOk (all:List Oper):List Foot->Bool
 | []=>true
 | p::r=>r.all (fun q=>waitsD all q.i p.i || (apart p q || waits all q.i p.i)) && drawOk all r
def edgesOk:Nat->List Oper->Bool
 | _,[]=>true
 | i,o::r=>o.after.toList.all (fun e=>!Region.binds .any e || Nat.blt e.on i) && edgesOk (i+1) r
inductive Ex where
 | normal
 | exit (id:Nat)
 | ret
def renN (ren:List (Nat × Nat)) (n:Nat):Nat:=match lk ren n with
 | some m=>m
 | none=>n
def AV.ren (r:List (Nat × Nat)):AV->AV
 | .ref n=>.ref (renN r n)
 | .ptr n i o=>.ptr (renN r n) i o
 | .fr ns t rows=>.fr (ns.map (renN r)) t rows
 | .fp ns row o=>.fp (ns.map (renN r)) row o
 | v=>v
def pairA:AV->AV->List (Nat × Nat)
 | .ref n,.ref m=>[(n,m)]
 | .ptr n _ _,.ptr m _ _=>[(n,m)]
 | _,_=>[]
def pairAs:List AV->List AV->List (Nat × Nat)
 | a::r,b::r'=>pairA a b++pairAs r r'
 | _,_=>[]
def pairT:TV->TV->List (Nat × Nat)
 | .one a,.one b=>pairA a b
 | .agg a,.agg b=>pairAs a b
 | _,_=>[]
def pairTs (inv:List (Nat × TV)) (t:List (Nat × TV)):List (Nat × Nat):=match inv with
 | []=>[]
 | (i,v)::r=>(match lk t i with|some w=>pairT v w|none=>[])++pairTs r t
def pairOs (ren:List (Nat × Nat)) (inv:List (Nat × Ob)) (s:List (Nat × Ob)):List (Nat × Nat):=match inv with
 | []=>[]
 | (n,.box row)::r=>(match lk s (renN ren n) with|some (.box row')=>pairAs row row'|_=>[])++pairOs ren r s
 | _::r=>pairOs ren r s
def eqNs:List Nat->List Nat->Bool
 | [],[]=>true
 | a::r,b::r'=>bif Nat.beq a b then eqNs r r' else false
 | _,_=>false
def eqV (x y:Value):Prop:=match x,y with
 | .int j a,.int j' b=>match kB j j' with|true=>a=b|false=>False
 | .bool a,.bool b=>a=b
 | x,y=>x=y
def eqA (told have_:AV) (k:Prop):Prop:=match told,have_ with
 | .undef,.na=>False
 | .undef,_=>k
 | .na,.na=>k
 | .prim x,.prim y=>eqV y x/\k
 | .emp t,.emp t'=>Nat.beq t t'=true/\k
 | .sl t r,.sl t' r'=>t'=t/\r'=r/\k
 | .fr ns t r,.fr ns' t' r'=>match eqNs ns ns',Nat.beq t t' with|true,true=>r'=r/\k|_,_=>False
 | .ref n,.ref m=>match Nat.beq n m with|true=>k|false=>False
 | .ptr n i o,.ptr m i' o'=>match Nat.beq n m with|true=>i'=i/\o'=o/\k|false=>False
 | .fp ns r o,.fp ns' r' o'=>match eqNs ns ns' with|true=>r'=r/\o'=o/\k|false=>False
 | .fn f c,.fn f' c'=>f'=f/\c'=c/\k
 | _,_=>False
def eqAs:List AV->List AV->Prop->Prop
 | [],[],k=>k
 | a::r,b::r',k=>eqA a b (eqAs r r' k)
 | _,_,_=>False
def eqT (ren:List (Nat × Nat)) (told have_:TV) (k:Prop):Prop:=match told,have_ with
 | .one a,.one b=>eqA (a.ren ren) b k
 | .agg a,.agg b=>eqAs (a.map (AV.ren ren)) b k
 | _,_=>False
def eqTs (ren:List (Nat × Nat)) (t:List (Nat × TV)):List (Nat × TV)->Prop->Prop
 | [],k=>k
 |
  (i,v)::r,k=>match lk t i with
  | some w=>eqT ren v w (eqTs ren t r k)
  | none=>False
def eqOs (ren:List (Nat × Nat)) (s:List (Nat × Ob)):List (Nat × Ob)->Prop->Prop
 | [],k=>k
 |
  (n,.box row)::r,k=>match lk s (renN ren n) with
  | some (.box row')=>eqAs (row.map (AV.ren ren)) row' (eqOs ren s r k)
  | _=>False
 |
  (n,.arr t rows p)::r,k=>match lk s (renN ren n) with
  | some (.arr t' rows' p')=>match Nat.beq t t',p,p' with
    | true,true,true=>rows'=rows/\eqOs ren s r k
    | true,false,false=>rows'=rows/\eqOs ren s r k
    | _,_,_=>False
  | _=>False
def AV.inU (u:List Nat):AV->Bool
 | .ref n=>memN (n / 64) u
 | .ptr n _ _=>memN (n / 64) u
 | .fr ns _ _=>ns.all fun n=>memN (n / 64) u
 | .fp ns _ _=>ns.all fun n=>memN (n / 64) u
 | .fn _ caps=>caps.all fun a=>match a with
   | .ref n=>memN (n / 64) u
   | .ptr n _ _=>memN (n / 64) u
   | .fr ns _ _=>ns.all fun n=>memN (n / 64) u
   | .fp ns _ _=>ns.all fun n=>memN (n / 64) u
   | .fn ..=>false
   | _=>true
 | _=>true
def TV.inU (u:List Nat):TV->Bool
 | .one a=>a.inU u
 | .agg cs=>cs.all (AV.inU u)
 | .tup vs=>vs.all fun p=>p.2.all (AV.inU u)
def Ob.inU (u:List Nat):Ob->Bool
 | .box row=>row.all (AV.inU u)
 | .arr ..=>true
def noFn:AV->Bool
 | .fn ..=>false
 | _=>true
def capNl:AV->Bool
 | .prim _|.undef|.na|.fr [] _ _|.fp [] _ _=>true
 | _=>false
def okF:AV->Bool
 | .fn _ caps=>caps.all capNl
 | _=>true
def St.okInv (ren:List (Nat × Nat)) (st:St):Bool :=
 memN 0 st.u && Nat.beq (renN ren 63) 63 && uniqN (names st.s) && uniqN ((names st.s).map (renN ren)) && st.t.all (fun p=>p.2.inU st.u && (match p.2 with|.one a=>okF a|.agg cs=>cs.all okF|.tup _=>false)) &&
 st.s.all (fun p=>memN (p.1 / 64) st.u && p.2.inU st.u && (match p.2 with|.box row=>row.all okF|_=>true))
def invTR (u:List Nat):List (Nat × TV)->Bool
 | []=>true
 | (_,v)::r=>bif v.inU u then bif (match v with|.one a=>okF a|.agg cs=>allB okF cs|.tup _=>false) then invTR u r else false else false
def invOR (u:List Nat):List (Nat × Ob)->Bool
 | []=>true
 | (n,o)::r=>bif memN (n / 64) u then bif o.inU u then bif (match o with|.box row=>allB okF row|_=>true) then invOR u r else false else false else false
def okInvR (ren:List (Nat × Nat)):St->Bool
 | ⟨t,s,u⟩=>bif memN 0 u then bif Nat.beq (renN ren 63) 63 then bif uniqN (namesR s) then bif uniqN ((namesR s).map (renN ren)) then bif invTR u t then invOR u s else false else false else false else false else false
theorem xge (f:AV->Bool):∀ l:List AV,allB f l=l.all f
 | []=>rfl
 | a::r=>by simp only [allB,x13,xge f r]; cases f a<;>rfl
theorem xcy {u:List Nat}:∀ {l:List (Nat × TV)},invTR u l=true->l.all (fun p=>p.2.inU u && (match p.2 with|.one a=>okF a|.agg cs=>cs.all okF|.tup _=>false))=true
 | [],_=>rfl
 |
  (i,v)::r,h=>by
  simp only [invTR] at h;rw [x13];cases h1:v.inU u<;>rw [h1] at h
  · cases h
  · simp only [x1i] at h
    cases v with
    | one a =>
      simp only at h;cases h2:okF a<;>rw [h2] at h
      · cases h
      · simp only [x1i] at h; simp only [h1,h2,xcy h,x2n]
    | agg cs =>
      simp only [xge] at h;cases h2:cs.all okF<;>rw [h2] at h
      · cases h
      · simp only [x1i] at h; simp only [h1,h2,xcy h,x2n]
    | tup vs=>cases h
theorem xcz {u:List Nat}:∀ {l:List (Nat × Ob)},invOR u l=true->l.all (fun p=>memN (p.1 / 64) u && p.2.inU u && (match p.2 with|.box row=>row.all okF|_=>true))=true
 | [],_=>rfl
 |
  (i,v)::r,h=>by
  simp only [invOR] at h;rw [x13];cases h0:memN (i / 64) u<;>rw [h0] at h
  · cases h
  · cases h1:v.inU u<;>rw [h1] at h
    · cases h
    · simp only [x1i] at h
      cases v with
      | box row =>
        simp only [xge] at h;cases h2:row.all okF<;>rw [h2] at h
        · cases h
        · simp only [x1i] at h; simp only [h0,h1,h2,xcz h,x2n]
      | arr t rows p =>
        simp only [x1i] at h; simp only [h0,h1,xcz h,x2n]
theorem xse {ren:List (Nat × Nat)} {st:St} (h:okInvR ren st=true):st.okInv ren=true:=by
 obtain ⟨t,s,u⟩:=st;simp only [okInvR,ka] at h;cases h1:memN 0 u<;>rw [h1] at h
 · cases h
 cases h2:Nat.beq (renN ren 63) 63<;>rw [h2] at h
 · cases h
 cases h3:uniqN (s.map (·.1))<;>rw [h3] at h
 · cases h
 cases h4:uniqN ((s.map (·.1)).map (renN ren))<;>rw [h4] at h
 · cases h
 cases h5:invTR u t<;>rw [h5] at h
 · cases h
 simp only [x1i] at h;unfold St.okInv names;simp only [h1,h2,h3,h4,xcy h5,xcz h,x2n]
def weakBy (ren:List (Nat × Nat)) (st inv:St):Prop:=match okInvR ren inv with
 | true=>eqTs ren st.t inv.t (eqOs ren st.s inv.s True)
 | false=>False
def fRs:List (Nat × Nat)->(List (Nat × Nat)->Prop)->Prop
 | [],k=>k []
 | (a,b)::r,k=>fRs r fun r'=>k ((a,b)::r')
theorem xsf:∀ (l:List (Nat × Nat)) (k:List (Nat × Nat)->Prop),fRs l k=k l
 | [],_=>rfl
 | (a,b)::r,k=>xsf r _
def weak (st inv:St):Prop:=match st,inv with
 | ⟨t,s,u⟩,⟨t',s',u'⟩=>fRs (pairTs t' t) fun r1=>fRs (r1++pairOs r1 s' s) fun ren=>weakBy ren ⟨t,s,u⟩ ⟨t',s',u'⟩
def remN (m:Nat):List Nat->List Nat
 | []=>[]
 | n::r=>bif Nat.beq n m then remN m r else n::remN m r
def frzC (m t:Nat) (rows:List (List AV)):AV->AV
 | .ref n=>bif Nat.beq n m then .fr [] t rows else .ref n
 | .fr ns t' r=>.fr (remN m ns) t' r
 | .fp ns row o=>.fp (remN m ns) row o
 | .ptr n i off=>bif Nat.beq n m then .undef else .ptr n i off
 | v=>v
def frzV (m t:Nat) (rows:List (List AV)):AV->AV
 | .fn f caps=>.fn f (caps.map (frzC m t rows))
 | v=>frzC m t rows v
def TV.frz (m t:Nat) (rows:List (List AV)):TV->TV
 | .one v=>.one (frzV m t rows v)
 | .agg cs=>.agg (cs.map (frzV m t rows))
 | .tup vs=>.tup (vs.map fun p=>(p.1,p.2.map (frzV m t rows)))
def Ob.frz (m t:Nat) (rows:List (List AV)):Ob->Ob
 | .box row=>.box (row.map (frzV m t rows))
 | .arr t' r p=>.arr t' r p
def frzs:List Nat->St->(St->Prop)->Prop
 | [],st,k=>k st
 | m::r,st,k=>match lk st.s m with
   | some (.arr t rows false)=>match st with
     | ⟨t0,s0,u⟩=>fTs (mapR (TV.frz m t rows) t0) fun ts=>fOs (mapR (Ob.frz m t rows) (withoutR [m] s0)) fun os=>frzs r ⟨ts,os,u⟩ k
   | none=>frzs r st k
   | _=>False
def frzK (rid:Nat) (st:St) (k:St->Prop):Prop:=match lk E.fz rid with
 | none=>k st
 | some ms=>frzs ms st k
def vc:Code->St->(Ex->St->Prop)->Prop
 | .skip,st,Q=>Q .normal st
 | .region rid ops dr,st,Q=>frzK E rid st fun st=>match dr with
   | false=>vcSeq E ops.toList rid ops.toList 0 st fun st'=>Q .normal st'
   | true=>vcOps E ops.toList rid ops.toList 0 st fun st' fs=>match edgesOk 0 ops.toList && drawOk ops.toList fs with
     | true=>Q .normal st'
     | false=>False
 | .seq a b,st,Q=>vc a st fun e st'=>match e with
   | .normal=>vc b st' Q
   | .exit id=>Q (.exit id) st'
   | .ret=>Q .ret st'
 | .cond c x y,st,Q=>getX E st 0 c fun _ v=>match v with
   | .one (.prim (.bool b))=>ifB b (vc x st Q) (vc y st Q)
   | _=>False
 | .block id c,st,Q=>frzK E (1000000+id) st fun st=>vc c st fun e st'=>match e with
   | .normal=>Q .normal st'
   | .exit id'=>match Nat.beq id' id with
     | true=>Q .normal st'
     | false=>Q (.exit id') st'
   | .ret=>Q .ret st'
 | .loop c,st,Q=>∃ (α:Type) (inv:α->St) (μ:α->Nat) (a0:α),weak st (inv a0)/\∀ a,vc c (inv a) fun e st'=>match e with
   | .normal=>∃ a',μ a'<μ a/\weak st' (inv a')
   | .exit id=>Q (.exit id) st'
   | .ret=>Q .ret st'
 | .exit id,st,Q=>Q (.exit id) st
 | .ret,st,Q=>Q .ret st
 | _,_,_=>False
def capF:AV->AV
 | .sl t rows=>.fr [] t rows
 | .fp _ row o=>.fp [] row o
 | .prim v=>.prim v
 | _=>.undef
def par1 (n:Nat) (pin own:Bool):AV->AV × List (Nat × Ob)
 | .sl t rows=>bif own then (.ref n,[(n,.arr t rows pin)]) else (.fr [] t rows,[])
 | .fr _ t rows=>(.fr [] t rows,[])
 | .prim v=>(.prim v,[])
 | .na=>(.na,[])
 | .fp _ row o=>bif own then (.undef,[]) else (.fp [] row o,[])
 | .fn f caps=>bif own then (.undef,[]) else (.fn f (caps.map capF),[])
 | _=>(.undef,[])
def pars (pin own:Bool):Nat->List AV->List AV × List (Nat × Ob)
 | _,[]=>([],[])
 | n,a::r=>let p:=par1 n pin own a; let q:=pars pin own (n+1) r; (p.1::q.1,p.2++q.2)
def initK:List (Nat × Mode × TV)->(List (Nat × TV)->List (Nat × Ob)->Prop)->Prop
 | [],k=>k [] []
 |
  (j,m,v)::r,k =>
  let go (pin own:Bool):Prop:=match v with
   | .one a=>match pars pin own (j*64) [a] with
     | ([b],os)=>fAV b fun b=>initK r fun ts os'=>fOs (os++os') fun os''=>k ((j,.one b)::ts) os''
     | _=>False
   | .agg as1=>match pars pin own (j*64) as1 with
     | (cs,os)=>fAVs cs fun cs=>initK r fun ts os'=>fOs (os++os') fun os''=>k ((j,.agg cs)::ts) os''
   | .tup _=>False
  match m with
  | .pure=>go false false
  | .own=>go false true
  | .mut=>False
  | .io _ _=>match j,v with
    | 0,.agg as1=>match pars false true 0 as1 with
      | (cs,os)=>fAVs cs fun cs=>initK r fun ts os'=>fOs (os++os') fun os''=>k ((0,.one (.ptr 63 0 0))::ts) ((63,.box cs)::os'')
    | _,_=>False
def retC (st:St) (ag:Bool) (cs:List AV) (del:List Nat) (k:List AV->List Nat->Prop):Prop :=
 match ag,cs with
 | false,[.ptr n 0 0]=>match memN n del,lk st.s n with
   | false,some (.box row)=>rowCells st row (n::del) fun row' _ d=>k [.fp [] row' 0] d
   | _,_=>False
 | _,cs=>rowCells st cs del fun cs' _ d=>k cs' d
def resV (st:St):ResultVar->(Bool->List AV->Prop)->Prop
 | .tmp i,k=>match lk st.t i with
   | some (.one a)=>k false [a]
   | some (.agg cs)=>k true cs
   | _=>False
 | .cell i t,k=>match lk st.t i with
   | some (.one (.ptr n 0 off))=>tyI E t fun ti=>match lk st.s n with
     | some (.box row)=>match leLen (off+ti.n) row,allB noNa (takeC ti.n (dropC off row)) with
       | true,true=>k (isAggD ti.d) (takeC ti.n (dropC off row))
       | _,_=>False
     | _=>False
   | _=>False
def resK (st:St):List ResultVar->List Nat->(List (Bool × List AV)->List Nat->Prop)->Prop
 | [],del,k=>k [] del
 | r::rs,del,k=>resV E st r fun ag cs=>retC st ag cs del fun cs' d=>resK st rs d fun l d'=>k ((ag,cs')::l) d'
def outK (st:St) (io:Bool) (del:List Nat) (k:List TV->Prop):Prop :=
 match io with
 | false=>k []
 | true=>match memN 63 del,lk st.s 63 with
   | false,some (.box row)=>rowCells st row (63::del) fun cs _ _=>fAVs cs fun cs=>k [.agg cs]
   | _,_=>False
def isIo:List (Nat × Mode × TV)->Bool
 | (_,.io _ _,_)::_=>true
 | _=>false
def fin (fn:Func) (ins:List (Nat × Mode × TV)) (st:St) (k:TV->List TV->Prop):Prop :=
 resK E st fn.results.toList [] fun l d=>outK st (isIo ins) d fun outs=>match l with
  | [(ag,cs)]=>fTV (mkTV ag cs) fun v=>k v outs
  | l=>k (.tup l) outs
def inUsR (us:List Nat):List Nat->Bool
 | []=>true
 | n::r=>bif memN (n / 64) us then inUsR us r else false
def namesOkR (us:List Nat) (os:List (Nat × Ob)):Bool:=bif uniqN (namesR os) then inUsR us (namesR os) else false
theorem xm9 {us:List Nat} {os:List (Nat × Ob)} (h:namesOkR us os=true):uniqN (names os)=true/\(os.all fun p=>memN (p.1 / 64) us)=true:=by
 unfold namesOkR at h;rw [ka] at h;unfold names;cases h1:uniqN (os.map (·.1))<;>rw [h1] at h
 · cases h
 · refine ⟨rfl,?_⟩;simp only [x1i] at h;have key:∀ {l:List (Nat × Ob)},inUsR us (l.map (·.1))=true->(l.all fun p=>memN (p.1 / 64) us)=true:=by
    intro l
    induction l with
    | nil=>intro _; rfl
    | cons p r ih =>
      intro h;simp only [x0d,inUsR] at h;rw [x13];cases h2:memN (p.1 / 64) us<;>rw [h2] at h
      · cases h
      · simp only [x1i] at h; rw [ih h]; rfl
   exact key h
def fnVc (fn:Func) (c:Code) (ins:List (Nat × Mode × TV)) (K:TV->List TV->Prop):Prop :=
 initK ins fun ts os=>fNs (namesR ins) fun us=>match namesOkR us os with
  | true=>vc E c ⟨ts,os,us⟩ fun e st=>match e with
    | .exit _=>False
    | .normal=>fin E fn ins st K
    | .ret=>fin E fn ins st K
  | false=>False
end
end Go.AM
end
section
namespace Go.AM
open Go
theorem yn {fs:List (List Nat)} {k:Nat} {f:List Nat} (h:fs[k]?=some f):∀ b∈f,b∈fs.flatten :=
 fun _ hb=>x08.2 ⟨f,xzy h,hb⟩
theorem Rd.oneCell {P:Program} {w:World} {S:Nat->Prop} {av:AV} {x:Value} (h:Rd P w S av x):x.oneCell'=true:=by
 induction h with
 | prim h=>exact h
 | fr _ ih=>exact ih
 | _=>rfl
theorem Ow.max {P:Program} {w:World} {Z:Nat->Prop} {t:Nat} {rows:List (List AV)} {x:Value} {f:List Nat} (h:Ow P w Z (.sl t rows) x f):rows.length<=1125899906842624:=by cases h; assumption
theorem Rd.max {P:Program} {w:World} {S:Nat->Prop} {t:Nat} {rows:List (List AV)} {x:Value} (h:Rd P w S (.sl t rows) x):rows.length<=1125899906842624:=by cases h; assumption
theorem Rd.mono {P:Program} {w w':World} {S S':Nat->Prop} {av:AV} {x:Value} (h:Rd P w S av x) (hS:∀ b,S b->S' b)
 (hw:∀ b,S b->w'.heap[b]?=w.heap[b]?):Rd P w' S' av x:=by
 induction h with
 | prim h=>exact .prim h
 | emp=>exact .emp
 | fr _ ih=>exact .fr ih
 | @sl t rows a len cap cells hm hl hcap hwd hn hb hc hr ih =>
   refine .sl (cells:=cells) hm hl hcap hwd hn (fun hne=>?_) (fun b o k x ha hk=>?_) ih
   · obtain ⟨b,o,h1,h2⟩:=hb hne; exact ⟨b,o,h1,hS b h2⟩
   · have hne:rows≠[]:=by
      intro e; subst e;have h0:cells=[]:=x0k (by simpa using hn);subst h0; simp at hk
     obtain ⟨b',o',h1,h2⟩:=hb hne;have e:b'=b:=by rw [ha] at h1; simp at h1; exact h1.1.symm
     subst e;rw [World.cell?_of_block (w:=w) (a:=⟨b',o+k,none⟩) (hw b' h2)];exact hc b' o k x ha hk
 | @fp ns row off b o cells hb hn hc hr ih =>
   refine .fp (cells:=cells) (hS b hb) hn (fun k x hk=>?_) ih;rw [World.cell?_of_block (w:=w) (a:=⟨b,o+k,none⟩) (hw b hb)];exact hc k x hk
 | fn hn hr ih=>exact .fn hn ih
theorem xkn {w w':World} {base t size n:Nat} {v:Value} {xs:List Value} (h:w.ownsRow base t size v n xs)
 (hb:∀ b,v.ownBlock=some b->w'.heap[b]?=w.heap[b]?):w'.ownsRow base t size v n xs:=by
 refine ⟨h.1,?_⟩;rcases h.2 with hn|⟨g,cap,cur,rfl,h1,h2,h3⟩
 · exact .inl hn
 · exact .inr ⟨g,cap,cur,rfl,h1,by rw [hb g rfl]; exact h2,h3⟩
theorem Ow.oneCell {P:Program} {w:World} {Z:Nat->Prop} {av:AV} {x:Value} {f:List Nat} (h:Ow P w Z av x f):x.oneCell'=true:=by
 cases h with
 | prim h=>exact h
 | fr0 h=>exact h.oneCell
 | sl _ _ ho _ _=>rcases ho.2 with ⟨rfl,_⟩|⟨g,cap,cur,rfl,_⟩<;>rfl
 | fp=>rfl
theorem Ow.mono {P:Program} {w w':World} {Z Z':Nat->Prop} {av:AV} {x:Value} {f:List Nat} (h:Ow P w Z av x f) (hZ:∀ b,Z b->Z' b)
 (hw:∀ b,Z b->w'.heap[b]?=w.heap[b]?) (hf:∀ b∈f,w'.heap[b]?=w.heap[b]?):Ow P w' Z' av x f:=by
 induction h with
 | prim h=>exact .prim h
 | fr0 h=>exact .fr0 (h.mono hZ hw)
 | @sl t rows v cells fs hm hwd ho hlen hr ih =>
   refine .sl hm hwd (xkn ho fun b hb=>hf b (by simp [hb])) hlen fun k av x f h1 h2 h3=>ih k av x f h1 h2 h3 fun b hb=>hf b ?_;exact xzz _ (yn h3 b hb)
 | @fp row b o c ty fs hb hn hlen hr ih =>
   refine .fp (c:=c) (ty:=ty) (by rw [hf b (by simp)]; exact hb) hn hlen fun k av x f h1 h2 h3=>ih k av x f h1 h2 h3 fun b' hb'=>hf b' ?_;exact xzp _ (yn h3 b' hb')
theorem Ow.lt {P:Program} {w:World} {Z:Nat->Prop} {av:AV} {x:Value} {f:List Nat} (h:Ow P w Z av x f):∀ b∈f,b<w.heap.size:=by
 induction h with
 | prim h=>intro b hb; cases hb
 | fr0 h=>intro b hb; cases hb
 | @sl t rows v cells fs hm hwd ho hlen hr ih =>
   intro b hb;rcases xzs.1 hb with hb|hb
   · exact (ho.lt b (by cases h:v.ownBlock<;>simp [h] at hb; exact congrArg some hb.symm)).2
   · obtain ⟨f,hf,hbf⟩:=x08.1 hb;obtain ⟨k,hk,rfl⟩:=x0h.1 hf;have hk':k<cells.length:=hlen▸hk;have hfl:k<rows.flatten.length:=by
      have h1:rows.flatten.length=rows.length*P.cellsOf t:=by
       clear hr ih ho hlen hb hbf hf hk hk' hm
       induction rows with
       | nil=>simp
       | cons r rs ih=>simp only [x01,xzu,xz6,hwd r (by simp),ih (fun r hr=>hwd r (by simp [hr])),x3o,Nat.one_mul]; omega
      rw [h1,<- ho.1]; exact hk'
     exact ih k _ _ _ (xzh hfl) (xzh hk') (xzh hk) b hbf
 | @fp row b o c ty fs hb hn hlen hr ih =>
   intro b' hb';rcases xzn.1 hb' with rfl|hb'
   · exact (x0t.1 hb).1
   · obtain ⟨f,hf,hbf⟩:=x08.1 hb';obtain ⟨k,hk,rfl⟩:=x0h.1 hf;have hk':k<row.length:=hlen▸hk;exact ih k _ _ _ (xzh hk') (x2r (by omega)) (xzh hk) b' hbf
theorem Ow.rd {P:Program} {w:World} {Z S:Nat->Prop} {av:AV} {x:Value} {f:List Nat} (h:Ow P w Z av x f) (hf:∀ b∈f,S b) (hZ:∀ b,Z b->S b):Rd P w S av x:=by
 induction h with
 | prim h=>exact .prim h
 | fr0 h=>exact .fr (h.mono hZ fun _ _=>rfl)
 | @sl t rows v cells fs hm hwd ho hlen hr ih =>
   have hr':∀ (k:Nat) (av:AV) (x:Value),rows.flatten[k]?=some av->cells[k]?=some x->Rd P w S av x:=by
    intro k av x h1 h2;have hk:k<fs.length:=by rw [hlen]; exact (xzm.1 h2).1
    exact ih k av x _ h1 h2 (xzh hk) fun b hb=>hf b (xzz _ (yn (xzh hk) b hb))
   rcases ho.2 with ⟨rfl,h0⟩|⟨g,cap,cur,rfl,_,hg,hcap,_,_,htake⟩
   · have hrows:rows=[]:=x0k h0;subst hrows;exact .sl (cells:=cells) hm rfl (x0r _) hwd ho.1 (fun h=>absurd rfl h) (fun b o k x ha=>by cases ha) hr'
   · refine .sl (cells:=cells) hm rfl hcap hwd ho.1 (fun _=>⟨g,0,rfl,hf g (by simp [Value.ownBlock])⟩) (fun b o k x ha hk=>?_) hr';simp at ha;obtain ⟨rfl,rfl⟩:=ha;have:=ho.cells (g:=g) rfl k x hk;have e:(⟨g,0,none⟩:Addr).add k=⟨g,0+k,none⟩:=by unfold Addr.add; split<;>simp_all
     rw [<- e]; exact this
 | @fp row b o c ty fs hb hn hlen hr ih =>
   refine .fp (o:=o) (cells:=(c.toList.drop o).take row.length) (hf b (by simp)) (by simp; omega) (fun k x hk=>?_) fun k av x h1 h2=>?_
   · rw [cell_of_row w b (o+k) c ty (0,0) hb];rw [xz7] at hk
     split at hk
     · rw [x0p] at hk; simpa using hk
     · cases hk
   · have hk:k<fs.length:=by rw [hlen]; exact (xzm.1 h1).1
     rw [xz7] at h2
     split at h2
     · rw [x0p] at h2;exact ih k av x _ h1 (by simpa using h2) (xzh hk) fun b' hb'=>hf b' (xzp _ (yn (xzh hk) b' hb'))
     · cases h2
structure Pl where
 hdr:Nat->Value
 adr:Nat->Nat × Nat
 own:Nat->List Nat
def Sup (pl:Pl) (Z:Nat->Prop) (ns:List Nat) (b:Nat):Prop:=Z b\/∃ n∈ns,b∈pl.own n
def ptrAt (P:Program) (pl:Pl) (o:Ob) (n i off:Nat):Addr:=match o with
 | .box _=>⟨(pl.adr n).1,(pl.adr n).2+off,none⟩
 | .arr t _ _=>⟨(pl.hdr n).ownBlock.getD 0,i*P.cellsOf t+off,none⟩
section
variable (P:Program) (st:St) (pl:Pl) (Z:Nat->Prop) (w:World)
def A0:AV->Value->Prop
 | .undef,_=>True
 | .na,_=>True
 | .prim v,x=>x=v/\v.oneCell'=true
 | .emp _,x=>x=.slice none 0 0
 | .sl ..,_=>False
 | .fr ns t rows,x=>(∀ n∈ns,st.has n)->Rd P w (Sup pl Z ns) (.sl t rows) x
 | .ref n,x=>∀ t rows p,st.O n=some (.arr t rows p)->x=pl.hdr n
 | .ptr n i off,x=>∀ o,st.O n=some o->x=.pointer (some (ptrAt P pl o n i off))
 | .fp ns row off,x=>(∀ n∈ns,st.has n)->Rd P w (Sup pl Z ns) (.fp [] row off) x
 | .fn ..,_=>False
def Ar:AV->Value->Prop
 | .fn f caps,x=>∃ arr:List Value,x=.func (.func f) #[] arr.toArray/\arr.length=caps.length /\
    ∀ (k:Nat) (av:AV) (y:Value),caps[k]?=some av->arr[k]?=some y->A0 P st pl Z w av y
 | v,x=>A0 P st pl Z w v x
def Ars (cs:List AV) (xs:List Value):Prop:=xs.length=cs.length/\∀ (k:Nat) (av:AV) (y:Value),cs[k]?=some av->xs[k]?=some y->Ar P st pl Z w av y
def Tr:TV->Value->Prop
 | .one v,x=>Ar P st pl Z w v x
 | .agg cs,x=>∃ xs:List Value,x=.agg xs.toArray/\Ars P st pl Z w cs xs
 | .tup vs,x=>∃ xs:List Value,x=.tuple xs.toArray/\xs.length=vs.length /\
    ∀
     (k:Nat) (a:Bool) (cs:List AV) (y:Value),vs[k]?=some (a,cs)->xs[k]?=some y ->
     ∃ ys:List Value,Ars P st pl Z w cs ys/\y=bif a then .agg ys.toArray else ys.getD 0 undef
def ObR (n:Nat):Ob->Prop
 | .box row=>pl.own n=[(pl.adr n).1]/\∃ c ty,w.heap[(pl.adr n).1]?=some (.cells c ty (0,0))/\(pl.adr n).2+row.length<=c.size /\
    ∀ (k:Nat) (av:AV) (y:Value),row[k]?=some av->c[(pl.adr n).2+k]?=some y->Ar P st pl Z w av y
 | .arr t rows _=>Ow P w Z (.sl t rows) (pl.hdr n) (pl.own n)
end
structure Cx where
 w0:World
 Z0:Nat->Prop
 own0:List Nat
 io:Option Io
 nt:Nat
def Cx.may (cx:Cx) (b:Nat):Prop:=b∈cx.own0\/(∃ i,cx.io=some i/\b=i.b)\/cx.w0.heap.size<=b
def Cx.mayZ (cx:Cx) (b:Nat):Prop:=(cx.Z0 b\/b∈cx.own0\/cx.w0.heap.size<=b)/\∀ i,cx.io=some i->b≠i.b
structure Rel (P:Program) (cx:Cx) (st:St) (a:Act) (w:World) (pl:Pl) (Z:Nat->Prop):Prop where
 tsz:a.tmps.size=cx.nt
 df:a.defers=[]
 tmp:∀ i v,lk st.t i=some v->∃ x,a.tmps[i]?=some x/\Tr P st pl Z w v x
 obj:∀ n o,lk st.s n=some o->ObR P st pl Z w n o
 nd:∀ n,st.has n->(pl.own n).Nodup
 dj:∀ n m,st.has n->st.has m->n≠m->∀ b∈pl.own n,b ∉ pl.own m
 lt:∀ n,st.has n->∀ b∈pl.own n,b<w.heap.size/\¬ Z b/\cx.may b
 zlt:∀ b,Z b->b<w.heap.size/\cx.mayZ b
 z0:∀ b,cx.Z0 b->Z b
 fr:Frm cx.w0 w cx.own0 cx.io
 io:∀ i,cx.io=some i->∀ n row,lk st.s n=some (.box row)->(pl.adr n).1=i.b->(pl.adr n).2=i.o/\row.map (fun a=>!a.isNa)=i.m
 ioa:∀ i,cx.io=some i->∀ n t rows p,lk st.s n=some (.arr t rows p)->i.b ∉ pl.own n
 ut:∀ i v,lk st.t i=some v->v.inU st.u=true
 us:∀ n o,lk st.s n=some o->memN (n / 64) st.u=true/\o.inU st.u=true
 u0:∀ i,cx.io=some i->memN 0 st.u=true/\(st.has 63->pl.adr 63=(i.b,i.o))
 gl:GOk P w Z
end Go.AM
end
section
namespace Go.AM
open Go
theorem jj {n:Nat} {l:List Nat}:memN n l=true↔n∈l:=by
 induction l with
 | nil=>simp [memN]
 | cons m r ih =>
   simp only [memN,xzn];cases h:Nat.beq m n
   · have:¬ n=m:=by intro e; subst e; simp [x2i] at h
     simp [ih,this]
   · have:m=n:=xz2 h;simp [this]
theorem yr {n:Nat} {l:List Nat}:memN n l=false↔n ∉ l:=by
 rw [<- jj]; cases memN n l<;>simp
theorem xay {l ks:List Nat}:hitN l ks=true↔∃ n∈l,n∈ks:=by
 induction l with
 | nil=>simp [hitN]
 | cons m r ih =>
   simp only [hitN];cases h:memN m ks
   · have:m ∉ ks:=yr.1 h;simp [ih,this]
   · have:m∈ks:=jj.1 h;simp [this]
theorem xz {l ks:List Nat}:hitN l ks=false↔∀ n∈l,n ∉ ks:=by
 rw [<- x3z,xay]; simp
theorem qa {ks:List Nat} {l:List AV}:anyTag ks l=false↔∀ a∈l,a.tag1 ks=false:=by
 induction l with
 | nil=>simp [anyTag]
 | cons a r ih=>simp only [anyTag]; cases h:a.tag1 ks<;>simp [ih,h]
theorem x4 {α:Type} (j:Nat) (v:α) (r:List (Nat × α)) (i:Nat):lk ((j,v)::r) i=if j=i then some v else lk r i:=by
 simp only [lk];cases h:Nat.beq j i
 · have:¬ j=i:=by intro e; subst e; simp [x2i] at h
   simp [this]
 · simp [xz2 h]
theorem xaz {α β:Type} (f:α->β) (l:List (Nat × α)) (i:Nat):lk (l.map fun p=>(p.1,f p.2)) i=(lk l i).map f:=by
 induction l with
 | nil=>rfl
 | cons p r ih=>obtain ⟨j,v⟩:=p; simp only [x0d,x4,ih]; split<;>rfl
theorem jr {α:Type} (l r:List (Nat × α)) (i:Nat):lk (l++r) i=(lk l i).or (lk r i):=by
 induction l with
 | nil=>simp [lk]
 | cons p l ih=>obtain ⟨j,v⟩:=p; simp only [x30,x4,ih]; split<;>simp
theorem xc0 (ks:List Nat) (l:List (Nat × Ob)) (i:Nat):lk (without ks l) i=if i∈ks then none else lk l i:=by
 induction l with
 | nil=>simp [without,lk]
 | cons p l ih =>
   obtain ⟨j,v⟩:=p;unfold without at ih ⊢;rw [x27];by_cases hj:j∈ks
   · have h1:memN j ks=true:=jj.2 hj;simp only [h1,x3t,x2u,x17,ih,x4];by_cases hi:i∈ks
     · simp [hi]
     · have:¬ j=i:=fun e=>hi (e▸hj);simp [hi,this]
   · have h1:memN j ks=false:=yr.2 hj;simp only [h1,x2j,if_true,x4,ih];by_cases hi:j=i
     · subst hi; simp [hj]
     · simp [hi]
theorem ym {α:Type} {l:List (Nat × α)} {i:Nat} {v:α} (h:lk l i=some v):(i,v)∈l:=by
 induction l with
 | nil=>simp [lk] at h
 | cons p l ih =>
   obtain ⟨j,u⟩:=p;rw [x4] at h
   split at h
   · rename_i e; subst e; simp at h; simp [h]
   · exact xzp _ (ih h)
theorem x8 {l:List (Nat × Ob)} {i:Nat}:(lk l i).isSome=true↔i∈names l:=by
 induction l with
 | nil=>simp [lk,names]
 | cons p l ih =>
   obtain ⟨j,u⟩:=p;rw [x4];simp only [names,x0d,xzn] at ih ⊢
   split
   · rename_i e; simp [e]
   · rename_i e; rw [ih]; simp [show ¬ i=j from fun h=>e h.symm]
theorem xcc (st:St) (dst:Option Nat) (uid:Nat) (pk:Pk) (i:Nat) :
 lk (apply st dst uid pk).t i=if dst=some i then some pk.val else (lk st.t i).map (TV.drop (olds st pk.put++pk.del)):=by
 unfold apply dropTs
 cases dst with
 | none=>simp [xaz]
 | some d=>simp only [x4,xaz,x0g]
theorem vd (st:St) (dst:Option Nat) (uid:Nat) (pk:Pk) (n:Nat) :
 lk (apply st dst uid pk).s n=match lk pk.put n with
  | some o=>some o
  | none=>if n∈pk.del then none else (lk st.s n).map (Ob.drop (olds st pk.put++pk.del)):=by
 unfold apply dropOs;simp only [jr,xc0,xaz]
 cases h:lk pk.put n with
 | some o=>rfl
 | none =>
   have:n ∉ names pk.put:=fun hm=>by have:=x8.2 hm; rw [h] at this; cases this
   simp [this]
def Ob.like:Ob->Ob->Prop
 | .box _,.box _=>True
 | .arr t _ _,.arr t' _ _=>t=t'
 | _,_=>False
structure Next (P:Program) (st:St) (pl:Pl) (Z:Nat->Prop) (w:World) (st':St) (pl':Pl) (Z':Nat->Prop) (w':World) (ks:List Nat):Prop where
 old:∀ n o',lk st'.s n=some o'->memN (n / 64) st.u=true->∃ o,lk st.s n=some o/\o.like o'/\pl'.hdr n=pl.hdr n/\pl'.adr n=pl.adr n /\
  (n ∉ ks->pl'.own n=pl.own n/\∀ b∈pl.own n,w'.heap[b]?=w.heap[b]?)
 zz:∀ b,Z b->Z' b/\w'.heap[b]?=w.heap[b]?
section
variable {P:Program} {st:St} {pl:Pl} {Z:Nat->Prop} {w:World} {st':St} {pl':Pl} {Z':Nat->Prop} {w':World} {ks:List Nat}
theorem Next.rd (N:Next P st pl Z w st' pl' Z' w' ks) {ns:List Nat} (hu:∀ n∈ns,memN (n / 64) st.u=true) (hk:∀ n∈ns,n ∉ ks) {av:AV} {x:Value}
 (h:(∀ n∈ns,st.has n)->Rd P w (Sup pl Z ns) av x):(∀ n∈ns,st'.has n)->Rd P w' (Sup pl' Z' ns) av x:=by
 intro ha;have old:∀ n∈ns,st.has n/\pl'.own n=pl.own n/\∀ b∈pl.own n,w'.heap[b]?=w.heap[b]?:=by
  intro n hn;obtain ⟨o',ho'⟩:=x0n.1 (ha n hn);obtain ⟨o,ho,_,_,_,h4⟩:=N.old n o' ho' (hu n hn);exact ⟨by unfold St.has St.O; rw [ho]; rfl,h4 (hk n hn)⟩
 refine (h fun n hn=>(old n hn).1).mono (fun b hb=>?_) (fun b hb=>?_)
 · rcases hb with hb|⟨n,hn,hb⟩
   · exact .inl (N.zz b hb).1
   · exact .inr ⟨n,hn,by rw [(old n hn).2.1]; exact hb⟩
 · rcases hb with hb|⟨n,hn,hb⟩
   · exact (N.zz b hb).2
   · exact (old n hn).2.2 b hb
theorem A0.next (N:Next P st pl Z w st' pl' Z' w' ks) {v:AV} {x:Value} (hu:v.inU st.u=true) (hk:v.tag1 ks=false)
 (h:A0 P st pl Z w v x):A0 P st' pl' Z' w' v x:=by
 cases v with
 | undef=>trivial
 | na=>trivial
 | prim v=>exact h
 | emp t=>exact h
 | sl t r=>exact h
 | fn f c=>exact h
 | fr ns t rows =>
   simp only [AV.inU,xzl] at hu;exact N.rd hu (xz.1 hk) h
 | fp ns row off =>
   simp only [AV.inU,xzl] at hu;exact N.rd hu (xz.1 hk) h
 | ref n =>
   intro t rows p ho;obtain ⟨o,h1,h2,h3,_⟩:=N.old n _ ho hu;rw [h3]
   cases o with
   | box row=>exact h2.elim
   | arr t' rows' p'=>exact h t' rows' p' h1
 | ptr n i off =>
   intro o' ho;obtain ⟨o,h1,h2,h3,h4,_⟩:=N.old n _ ho hu;rw [h o h1];cases o<;>cases o'<;>simp only [Ob.like] at h2
   · simp [ptrAt,h4]
   · subst h2; simp [ptrAt,h3]
theorem A0.drop (N:Next P st pl Z w st' pl' Z' w' ks) {v:AV} {x:Value} (hu:v.inU st.u=true)
 (h:A0 P st pl Z w v x):A0 P st' pl' Z' w' (v.drop ks) x:=by
 cases v with
 | fr ns t rows =>
   simp only [AV.drop];cases hh:hitN ns ks
   · exact A0.next N hu hh h
   · trivial
 | fp ns row off =>
   simp only [AV.drop];cases hh:hitN ns ks
   · exact A0.next N hu hh h
   · trivial
 | fn f c=>exact h.elim
 | _=>exact A0.next N hu rfl h
theorem xo5 {u:List Nat} {f:Nat} {caps:List AV} (h:(AV.fn f caps).inU u=true):∀ a∈caps,a.inU u=true/\noFn a=true:=by
 intro a ha;simp only [AV.inU,xzl] at h;have:=h a ha;cases a<;>simp_all [AV.inU,noFn]
theorem Ar.drop (N:Next P st pl Z w st' pl' Z' w' ks) {v:AV} {x:Value} (hu:v.inU st.u=true)
 (h:Ar P st pl Z w v x):Ar P st' pl' Z' w' (v.drop ks) x:=by
 cases v with
 | undef=>trivial
 | na=>trivial
 | sl t rows=>exact h
 | fn f caps =>
   simp only [AV.drop];cases hh:anyTag ks caps
   · obtain ⟨arr,h1,h2,h3⟩:=h;refine ⟨arr,h1,h2,fun k av y hk hy=>?_⟩;have hm:=xzy hk;exact A0.next N (xo5 hu av hm).1 (qa.1 hh av hm) (h3 k av y hk hy)
   · trivial
 | fr ns t rows =>
   simp only [AV.drop];cases hh:hitN ns ks
   · exact A0.next N hu hh h
   · trivial
 | fp ns row off =>
   simp only [AV.drop];cases hh:hitN ns ks
   · exact A0.next N hu hh h
   · trivial
 | _=>exact A0.drop (x:=x) N hu h
theorem Ars.drop (N:Next P st pl Z w st' pl' Z' w' ks) {cs:List AV} {xs:List Value} (hu:cs.all (AV.inU st.u)=true)
 (h:Ars P st pl Z w cs xs):Ars P st' pl' Z' w' (cs.map (AV.drop ks)) xs:=by
 refine ⟨by simpa using h.1,fun k av y hk hy=>?_⟩;simp only [xzr,xz0] at hk;obtain ⟨av,hk,rfl⟩:=hk;exact Ar.drop N (xzl.1 hu av (xzy hk)) (h.2 k av y hk hy)
theorem Tr.drop (N:Next P st pl Z w st' pl' Z' w' ks) {v:TV} {x:Value} (hu:v.inU st.u=true)
 (h:Tr P st pl Z w v x):Tr P st' pl' Z' w' (v.drop ks) x:=by
 cases v with
 | one v=>exact Ar.drop N hu h
 | agg cs=>obtain ⟨xs,h1,h2⟩:=h; exact ⟨xs,h1,Ars.drop N hu h2⟩
 | tup vs =>
   obtain ⟨xs,h1,h2,h3⟩:=h;refine ⟨xs,h1,by simpa using h2,fun k a cs y hk hy=>?_⟩;simp only [xzr,xz0,x25] at hk;obtain ⟨⟨a',cs'⟩,hk,rfl,rfl⟩:=hk;obtain ⟨ys,h4,h5⟩:=h3 k a' cs' y hk hy;simp only [TV.inU,xzl] at hu;exact ⟨ys,Ars.drop N (xzl.2 (hu _ (xzy hk))) h4,h5⟩
theorem ObR.drop (N:Next P st pl Z w st' pl' Z' w' ks) {n:Nat} {o:Ob} (hu:o.inU st.u=true) (h1:pl'.hdr n=pl.hdr n) (h2:pl'.adr n=pl.adr n) (h3:pl'.own n=pl.own n)
 (hb:∀ b∈pl.own n,w'.heap[b]?=w.heap[b]?) (h:ObR P st pl Z w n o):ObR P st' pl' Z' w' n (o.drop ks):=by
 cases o with
 | arr t rows p =>
   simp only [Ob.drop,ObR] at h ⊢;rw [h1,h3];exact h.mono (fun b hb=>(N.zz b hb).1) (fun b hb=>(N.zz b hb).2) hb
 | box row =>
   obtain ⟨ho,c,ty,hc,hl,hr⟩:=h;refine ⟨by rw [h2,h3]; exact ho,c,ty,by rw [h2,hb _ (by rw [ho]; simp)]; exact hc,by simpa [h2] using hl,fun k av y hk hy=>?_⟩;simp only [xzr,xz0] at hk;obtain ⟨av,hk,rfl⟩:=hk;rw [h2] at hy;exact Ar.drop N (xzl.1 hu av (xzy hk)) (hr k av y hk hy)
end
theorem AV.inU_mono {u u':List Nat} (h:∀ n,memN n u=true->memN n u'=true) {v:AV} (hv:v.inU u=true):v.inU u'=true:=by
 cases v<;>simp only [AV.inU,xzl] at hv ⊢
 · exact fun n hn=>h _ (hv n hn)
 · exact h _ hv
 · exact h _ hv
 · exact fun n hn=>h _ (hv n hn)
 · intro a ha;have:=hv a ha
   cases a<;>simp only [xzl] at this ⊢<;>first|exact h _ this|exact fun n hn=>h _ (this n hn)|exact this
theorem AV.inU_drop {u ks:List Nat} {v:AV} (hv:v.inU u=true):(v.drop ks).inU u=true:=by
 cases v with
 | fr ns t r=>simp only [AV.drop]; cases hitN ns ks<;>first|exact hv|rfl
 | fp ns t r=>simp only [AV.drop]; cases hitN ns ks<;>first|exact hv|rfl
 | fn f c=>simp only [AV.drop]; cases anyTag ks c<;>first|exact hv|rfl
 | _=>exact hv
theorem ve {u ks:List Nat} {cs:List AV} (h:cs.all (AV.inU u)=true):(cs.map (AV.drop ks)).all (AV.inU u)=true:=by
 simp only [List.all_map,xzl,x3k] at h ⊢;exact fun a ha=>AV.inU_drop (h a ha)
theorem TV.inU_drop {u ks:List Nat} {v:TV} (hv:v.inU u=true):(v.drop ks).inU u=true:=by
 cases v with
 | one v=>exact AV.inU_drop hv
 | agg cs=>exact ve hv
 | tup vs =>
   simp only [TV.drop,TV.inU,List.all_map,xzl,x3k] at hv ⊢;intro p hp;have:=ve (ks:=ks) (xzl.2 (hv p hp));simpa [List.all_map,xzl] using this
theorem TV.inU_mono {u u':List Nat} (h:∀ n,memN n u=true->memN n u'=true) {v:TV} (hv:v.inU u=true):v.inU u'=true:=by
 cases v<;>simp only [TV.inU,xzl] at hv ⊢
 · exact AV.inU_mono h hv
 · exact fun a ha=>AV.inU_mono h (hv a ha)
 · exact fun p hp a ha=>AV.inU_mono h (hv p hp a ha)
theorem Ob.inU_mono {u u':List Nat} (h:∀ n,memN n u=true->memN n u'=true) {o:Ob} (hv:o.inU u=true):o.inU u'=true:=by
 cases o<;>simp only [Ob.inU,xzl] at hv ⊢;exact fun a ha=>AV.inU_mono h (hv a ha)
theorem Ob.inU_drop {u ks:List Nat} {o:Ob} (hv:o.inU u=true):(o.drop ks).inU u=true:=by
 cases o with
 | box row=>exact ve hv
 | arr t rows p=>rfl
theorem qh {n m:Nat} {u:List Nat} (h:memN n u=true):memN n (m::u)=true:=jj.2 (xzp _ (jj.1 h))
theorem xsg {ks:List Nat} (row:List AV):(row.map (AV.drop ks)).map (fun a=>!a.isNa)=row.map (fun a=>!a.isNa):=by
 simp only [x2k];apply x06;intro a _;simp only [x3k];congr 1
 cases a with
 | fr ns t r=>simp only [AV.drop]; cases hitN ns ks<;>rfl
 | fp ns t r=>simp only [AV.drop]; cases hitN ns ks<;>rfl
 | fn f c=>simp only [AV.drop]; cases anyTag ks c<;>rfl
 | _=>rfl
structure Chg (w w':World) (W:Nat->Prop):Prop where
 os:w'.os=w.os
 tape:w'.tape=w.tape
 output:w'.output=w.output
 size:w.heap.size<=w'.heap.size
 blk:∀ k,k<w.heap.size->¬ W k->w'.heap[k]?=w.heap[k]?
def Wr (st:St) (pl:Pl) (pk:Pk) (b:Nat):Prop:=∃ n,(n∈names pk.put\/n∈pk.del)/\st.has n/\b∈pl.own n
structure Step (P:Program) (cx:Cx) (st:St) (w:World) (pl:Pl) (Z:Nat->Prop) (dst:Option Nat) (uid:Nat) (pk:Pk) (x:Value) (w':World) (pl':Pl) (Z':Nat->Prop):Prop where
 chg:Chg w w' (Wr st pl pk)
 fr:Frm cx.w0 w' cx.own0 cx.io
 pls:∀ n,n ∉ names pk.put->pl'.hdr n=pl.hdr n/\pl'.adr n=pl.adr n/\pl'.own n=pl.own n
 old:∀ n o o',lk st.s n=some o->lk pk.put n=some o'->o.like o'/\pl'.hdr n=pl.hdr n/\pl'.adr n=pl.adr n
 zz:∀ b,Z b->Z' b
 zn:∀ b,Z' b->Z b\/((Wr st pl pk b\/w.heap.size<=b)/\b<w'.heap.size/\cx.mayZ b)
 put:∀ n o',lk pk.put n=some o'->ObR P (apply st dst uid pk) pl' Z' w' n o'/\(pl'.own n).Nodup/\o'.inU (uid::st.u)=true /\
  ∀ b∈pl'.own n,b<w'.heap.size/\¬ Z' b/\(w.heap.size<=b\/Wr st pl pk b)
 dj:∀ n m,n∈names pk.put->m∈names pk.put->n≠m->∀ b∈pl'.own n,b ∉ pl'.own m
 val:∀ d,dst=some d->Tr P (apply st dst uid pk) pl' Z' w' pk.val x/\pk.val.inU (uid::st.u)=true
 io:∀ i,cx.io=some i->∀ n row,lk pk.put n=some (.box row)->(pl'.adr n).1=i.b->(pl'.adr n).2=i.o/\row.map (fun a=>!a.isNa)=i.m
 ioa:∀ i,cx.io=some i->∀ n t rows p,lk pk.put n=some (.arr t rows p)->i.b ∉ pl'.own n
theorem vf {st:St} {l:List (Nat × Ob)} {n:Nat}:n∈olds st l↔n∈names l/\st.has n:=by
 simp [olds,St.has,St.O]
theorem xd3 {st:St} {uid:Nat} {pk:Pk} (h:okPk st uid pk=true) :
 (∀ n∈names pk.put,¬ st.has n->n / 64=uid/\memN uid st.u=false)/\∀ n∈pk.del,st.has n/\n ∉ names pk.put:=by
 unfold okPk at h
 split at h
 · rename_i h1 h2;rw [h1,h2];simp [names]
 · simp only [xzj,x05,xzl,x04] at h;obtain ⟨⟨⟨_,hu⟩,hn⟩,hd⟩:=h;refine ⟨fun n hm hh=>⟨?_,hu⟩,fun n hm=>⟨(hd n hm).1,yr.1 (hd n hm).2⟩⟩;rcases hn n hm with h|h
   · exact absurd h.2 hh
   · exact xz2 h
theorem Rel.step {P:Program} {cx:Cx} {st:St} {a:Act} {w:World} {pl:Pl} {Z:Nat->Prop} (R:Rel P cx st a w pl Z) {dst:Option Nat} (hd:∀ d,dst=some d->d<cx.nt)
 {uid:Nat} {pk:Pk} (hok:okPk st uid pk=true) {x:Value} {w':World} {pl':Pl} {Z':Nat->Prop}
 (S:Step P cx st w pl Z dst uid pk x w' pl' Z'):Rel P cx (apply st dst uid pk) (a.put dst x) w' pl' Z':=by
 obtain ⟨hnew,hdel⟩:=xd3 hok;have hzW:∀ b,Z b->¬ Wr st pl pk b:=by
  rintro b hz ⟨n,_,hn,hb⟩;exact (R.lt n hn b hb).2.1 hz
 have hzsame:∀ b,Z b->w'.heap[b]?=w.heap[b]?:=fun b hz=>S.chg.blk b (R.zlt b hz).1 (hzW b hz);have keep:∀ n,st.has n->n ∉ names pk.put->n ∉ pk.del->∀ b∈pl.own n,w'.heap[b]?=w.heap[b]?:=by
  intro n hn h1 h2 b hb;refine S.chg.blk b (R.lt n hn b hb).1 ?_;rintro ⟨m,hm,hm',hbm⟩;refine R.dj n m hn hm' (fun e=>?_) b hb hbm;subst e;exact hm.elim h1 h2
 have hs:=vd st dst uid pk;have N:Next P st pl Z w (apply st dst uid pk) pl' Z' w' (olds st pk.put++pk.del):=by
  refine ⟨fun n o' ho' hu=>?_,fun b hz=>⟨S.zz b hz,hzsame b hz⟩⟩;rw [hs n] at ho'
  cases hp:lk pk.put n with
  | some o'' =>
    rw [hp] at ho';simp at ho';subst ho';have hmem:n∈names pk.put:=x8.1 (by rw [hp]; rfl);have hh:st.has n:=by
     apply x2s;intro hh;obtain ⟨h1,h2⟩:=hnew n hmem hh;rw [h1] at hu; rw [hu] at h2; cases h2
    obtain ⟨o,ho⟩:=x0n.1 hh;obtain ⟨h1,h2,h3⟩:=S.old n o o'' ho hp;exact ⟨o,ho,h1,h2,h3,fun hk=>absurd (xzt _ (vf.2 ⟨hmem,hh⟩)) hk⟩
  | none =>
    rw [hp] at ho';simp only at ho'
    split at ho'
    · cases ho'
    · rename_i hdn;obtain ⟨o,ho,rfl⟩:=xz0.1 ho';have hnp:n ∉ names pk.put:=fun hm=>by have:=x8.2 hm; rw [hp] at this; cases this
      obtain ⟨h1,h2,h3⟩:=S.pls n hnp;have hh:st.has n:=by unfold St.has St.O; rw [ho]; rfl
      refine ⟨o,ho,by cases o<;>simp [Ob.drop,Ob.like],h1,h2,fun _=>⟨h3,keep n hh hnp hdn⟩⟩
 have cases_has:∀ n,(apply st dst uid pk).has n->(n∈names pk.put)\/(n ∉ names pk.put/\n ∉ pk.del/\st.has n/\pl'.own n=pl.own n):=by
  intro n hn;by_cases hm:n∈names pk.put
  · exact .inl hm
  · right;have hp:lk pk.put n=none:=by
     cases h:lk pk.put n with
     | none=>rfl
     | some o=>exact absurd (x8.1 (by rw [h]; rfl)) hm
    unfold St.has St.O at hn;rw [hs n,hp] at hn;simp only at hn
    split at hn
    · cases hn
    · rename_i hdn;refine ⟨hm,hdn,?_,(S.pls n hm).2.2⟩;unfold St.has St.O;simpa using hn
 have putO:∀ n,n∈names pk.put->∃ o',lk pk.put n=some o':=fun n hm=>x0n.1 (x8.2 hm);have ownW:∀ n,n∈names pk.put->∀ b∈pl'.own n,w.heap.size<=b\/Wr st pl pk b:=by
  intro n hm b hb;obtain ⟨o',ho'⟩:=putO n hm;exact ((S.put n o' ho').2.2.2 b hb).2.2
 have djx:∀ n m,n∈names pk.put->(m ∉ names pk.put/\m ∉ pk.del/\st.has m/\pl'.own m=pl.own m)->∀ b∈pl'.own n,b ∉ pl'.own m:=by
  rintro n m hn ⟨h1,h2,h3,h4⟩ b hb hbm;rw [h4] at hbm;rcases ownW n hn b hb with h|⟨q,hq,hq',hbq⟩
  · have:=(R.lt m h3 b hbm).1; omega
  · refine R.dj m q h3 hq' (fun e=>?_) b hbm hbq;subst e;exact hq.elim h1 h2
 have hput:∀ i v,(a.put dst x).tmps[i]?=some v↔(if dst=some i then i<a.tmps.size/\v=x else a.tmps[i]?=some v):=by
  intro i v
  cases dst with
  | none=>simp [Act.put]
  | some d =>
    simp only [Act.put,Array.getElem?_setIfInBounds,x0g]
    split
    · rename_i e; subst e
      split
      · rename_i hlt; simp [hlt,eq_comm]
      · rename_i hlt; simp [hlt]
    · rfl
 have um:∀ n,memN n st.u=true->memN n (uid::st.u)=true:=fun n h=>qh h;constructor
 case tsz=>cases dst<;>simp [Act.put,R.tsz]
 case df=>cases dst<;>exact R.df
 case tmp =>
  intro i v hv;rw [xcc] at hv
  split at hv
  · rename_i hdi;simp at hv;subst hv;refine ⟨x,(hput i x).2 ?_,(S.val i hdi).1⟩;rw [if_pos hdi];exact ⟨by rw [R.tsz]; exact hd i hdi,rfl⟩
  · rename_i hdi;obtain ⟨v,hv',rfl⟩:=xz0.1 hv; clear hv; have hv:=hv'; clear hv';obtain ⟨y,h1,h2⟩:=R.tmp i v hv;exact ⟨y,(hput i y).2 (by rw [if_neg hdi]; exact h1),Tr.drop N (R.ut i v hv) h2⟩
 case obj =>
  intro n o' ho';rw [hs n] at ho'
  cases hp:lk pk.put n with
  | some o'' =>
    rw [hp] at ho'; simp at ho'; subst ho';exact (S.put n o'' hp).1
  | none =>
    rw [hp] at ho';simp only at ho'
    split at ho'
    · cases ho'
    · rename_i hdn;obtain ⟨o,ho,rfl⟩:=xz0.1 ho';have hnp:n ∉ names pk.put:=fun hm=>by have:=x8.2 hm; rw [hp] at this; cases this
      obtain ⟨h1,h2,h3⟩:=S.pls n hnp;have hh:st.has n:=by unfold St.has St.O; rw [ho]; rfl
      exact ObR.drop N (R.us n o ho).2 h1 h2 h3 (keep n hh hnp hdn) (R.obj n o ho)
 case nd =>
  intro n hn;rcases cases_has n hn with h|⟨_,_,h,h'⟩
  · obtain ⟨o',ho'⟩:=putO n h;exact (S.put n o' ho').2.1
  · rw [h']; exact R.nd n h
 case dj =>
  intro n m hn hm hne b hb hbm;rcases cases_has n hn with h|h
  · rcases cases_has m hm with h'|h'
    · exact S.dj n m h h' hne b hb hbm
    · exact djx n m h h' b hb hbm
  · rcases cases_has m hm with h'|h'
    · exact djx m n h' h b hbm hb
    · rw [h.2.2.2] at hb; rw [h'.2.2.2] at hbm;exact R.dj n m h.2.2.1 h'.2.2.1 hne b hb hbm
 case lt =>
  intro n hn b hb;rcases cases_has n hn with h|h
  · obtain ⟨o',ho'⟩:=putO n h;obtain ⟨h1,h2,h3⟩:=(S.put n o' ho').2.2.2 b hb;refine ⟨h1,h2,?_⟩;rcases h3 with h3|⟨q,_,hq,hbq⟩
    · exact .inr (.inr (x1r R.fr.size h3))
    · exact (R.lt q hq b hbq).2.2
  · rw [h.2.2.2] at hb;obtain ⟨h1,h2,h3⟩:=R.lt n h.2.2.1 b hb;refine ⟨x1c h1 S.chg.size,fun hz=>?_,h3⟩;rcases S.zn b hz with hz|⟨hz|hz,_⟩
    · exact h2 hz
    · obtain ⟨q,hq,hq',hbq⟩:=hz;refine R.dj n q h.2.2.1 hq' (fun e=>?_) b hb hbq;subst e;exact hq.elim h.1 h.2.1
    · omega
 case zlt =>
  intro b hz;rcases S.zn b hz with hz|⟨_,h2,h3⟩
  · obtain ⟨h1,h2⟩:=R.zlt b hz;exact ⟨x1c h1 S.chg.size,h2⟩
  · exact ⟨h2,h3⟩
 case z0=>exact fun b hb=>S.zz b (R.z0 b hb)
 case fr=>exact S.fr
 case io =>
  intro i hi n row hr hadr;rw [hs n] at hr
  cases hp:lk pk.put n with
  | some o'' =>
    rw [hp] at hr; simp at hr; subst hr;exact S.io i hi n row hp hadr
  | none =>
    rw [hp] at hr;simp only at hr
    split at hr
    · cases hr
    · obtain ⟨o,ho,ho'⟩:=xz0.1 hr
      cases o with
      | arr t rows p=>simp [Ob.drop] at ho'
      | box row' =>
        simp only [Ob.drop,Ob.box.injEq] at ho';subst ho';have hnp:n ∉ names pk.put:=fun hm=>by have:=x8.2 hm; rw [hp] at this; cases this
        obtain ⟨_,h2,_⟩:=S.pls n hnp;rw [h2] at hadr ⊢;rw [xsg];exact R.io i hi n row' ho hadr
 case ioa =>
  intro i hi n t rows p hr;rw [hs n] at hr
  cases hp:lk pk.put n with
  | some o'' =>
    rw [hp] at hr; simp at hr; subst hr;exact S.ioa i hi n t rows p hp
  | none =>
    rw [hp] at hr;simp only at hr
    split at hr
    · cases hr
    · obtain ⟨o,ho,ho'⟩:=xz0.1 hr
      cases o with
      | box row=>simp [Ob.drop] at ho'
      | arr t' rows' p' =>
        have hnp:n ∉ names pk.put:=fun hm=>by have:=x8.2 hm; rw [hp] at this; cases this
        rw [(S.pls n hnp).2.2];exact R.ioa i hi n t' rows' p' ho
 case ut =>
  intro i v hv;rw [xcc] at hv
  split at hv
  · rename_i hdi; simp at hv; subst hv; exact (S.val i hdi).2
  · obtain ⟨v,hv',rfl⟩:=xz0.1 hv; clear hv; have hv:=hv'; clear hv';exact TV.inU_mono um (TV.inU_drop (R.ut i v hv))
 case us =>
  intro n o' ho';rw [hs n] at ho'
  cases hp:lk pk.put n with
  | some o'' =>
    rw [hp] at ho'; simp at ho'; subst ho';refine ⟨?_,(S.put n o'' hp).2.2.1⟩;by_cases hh:st.has n
    · obtain ⟨o,ho⟩:=x0n.1 hh;exact um _ (R.us n o ho).1
    · have:=(hnew n (x8.1 (by rw [hp]; rfl)) hh).1;rw [this]; exact jj.2 (by simp [apply])
  | none =>
    rw [hp] at ho';simp only at ho'
    split at ho'
    · cases ho'
    · obtain ⟨o,ho,rfl⟩:=xz0.1 ho';exact ⟨um _ (R.us n o ho).1,Ob.inU_mono um (Ob.inU_drop (R.us n o ho).2)⟩
 case u0 =>
  intro i hi;obtain ⟨h1,h2⟩:=R.u0 i hi;refine ⟨um _ h1,fun hh=>?_⟩;rcases cases_has 63 hh with h|⟨h,_,h',_⟩
  · by_cases hs':st.has 63
    · obtain ⟨o',ho'⟩:=putO 63 h;obtain ⟨o,ho⟩:=x0n.1 hs';rw [(S.old 63 o o' ho ho').2.2]; exact h2 hs'
    · obtain ⟨h3,h4⟩:=hnew 63 h hs';have e:uid=0:=by rw [<- h3]
      rw [e,h1] at h4; cases h4
  · rw [(S.pls 63 h).2.1]; exact h2 h'
 case gl=>exact R.gl.mono (fun b hb=>S.zz b hb) hzsame
end Go.AM
end
section
namespace Go.AM
open Go
theorem AV.drop_nil (v:AV):v.drop []=v:=by
 cases v<;>simp only [AV.drop]
 · rename_i ns _ _; cases h:hitN ns []<;>simp; simp [xay] at h
 · rename_i ns _ _; cases h:hitN ns []<;>simp; simp [xay] at h
 · rename_i f caps;have:anyTag [] caps=false:=qa.2 fun a _=>by
    cases a<;>simp only [AV.tag1]<;>(apply xz.2; intro n _; simp)
   simp [this]
theorem kj (cs:List AV):cs.map (AV.drop [])=cs:=by
 conv=>rhs; rw [<- x21 cs]
 exact x06 fun a _=>AV.drop_nil a
theorem TV.drop_nil (v:TV):v.drop []=v:=by
 cases v with
 | one v=>simp only [TV.drop,AV.drop_nil]
 | agg cs=>simp only [TV.drop,kj]
 | tup vs =>
   simp only [TV.drop,kj];congr 1
   conv=>rhs; rw [<- x21 vs]
   exact x06 fun a _=>rfl
theorem Ob.drop_nil (o:Ob):o.drop []=o:=by
 cases o with
 | box row=>simp only [Ob.drop,kj]
 | arr t rows p=>rfl
theorem A0.congr {P:Program} {st st':St} {pl:Pl} {Z:Nat->Prop} {w:World} (hs:∀ n,lk st'.s n=lk st.s n) {v:AV} {x:Value} (h:A0 P st pl Z w v x):A0 P st' pl Z w v x:=by
 have ho:∀ n,st'.O n=st.O n:=hs;have hh:∀ n,st'.has n↔st.has n:=fun n=>by unfold St.has; rw [ho]
 cases v<;>simp only [A0] at h ⊢
 · exact h
 · exact h
 · exact fun k=>h fun n hn=>(hh n).1 (k n hn)
 · exact fun t rows p k=>h t rows p (by rw [<- ho]; exact k)
 · exact fun o k=>h o (by rw [<- ho]; exact k)
 · exact fun k=>h fun n hn=>(hh n).1 (k n hn)
theorem Ar.congr {P:Program} {st st':St} {pl:Pl} {Z:Nat->Prop} {w:World} (hs:∀ n,lk st'.s n=lk st.s n) {v:AV} {x:Value} (h:Ar P st pl Z w v x):Ar P st' pl Z w v x:=by
 by_cases hv:noFn v=true
 · have e:∀ st,Ar P st pl Z w v x=A0 P st pl Z w v x:=fun st=>by cases v<;>first|rfl|cases hv
   rw [e] at h ⊢;exact A0.congr hs h
 · cases v with
   | fn f caps=>obtain ⟨arr,h1,h2,h3⟩:=h; exact ⟨arr,h1,h2,fun k av y hk hy=>A0.congr hs (h3 k av y hk hy)⟩
   | _=>simp [noFn] at hv
theorem Ars.congr {P:Program} {st st':St} {pl:Pl} {Z:Nat->Prop} {w:World} (hs:∀ n,lk st'.s n=lk st.s n) {v:List AV} {x:List Value} (h:Ars P st pl Z w v x):Ars P st' pl Z w v x :=
 ⟨h.1,fun k av y hk hy=>Ar.congr hs (h.2 k av y hk hy)⟩
theorem Tr.congr {P:Program} {st st':St} {pl:Pl} {Z:Nat->Prop} {w:World} (hs:∀ n,lk st'.s n=lk st.s n) {v:TV} {x:Value} (h:Tr P st pl Z w v x):Tr P st' pl Z w v x:=by
 cases v with
 | one v=>exact Ar.congr hs h
 | agg cs=>obtain ⟨xs,h1,h2⟩:=h; exact ⟨xs,h1,Ars.congr hs h2⟩
 | tup vs=>obtain ⟨xs,h1,h2,h3⟩:=h; exact ⟨xs,h1,h2,fun k a cs y hk hy=>let ⟨ys,h4,h5⟩:=h3 k a cs y hk hy; ⟨ys,Ars.congr hs h4,h5⟩⟩
theorem Step.quiet {P:Program} {cx:Cx} {st:St} {a:Act} {w:World} {pl:Pl} {Z:Nat->Prop} (R:Rel P cx st a w pl Z) {dst:Option Nat} {uid:Nat} {rt:List (Nat × TV)} {ro:List (Nat × Ob)} {v:TV} {x:Value}
 (h:Tr P st pl Z w v x) (hu:v.inU st.u=true):Step P cx st w pl Z dst uid ⟨rt,ro,v,[],[]⟩ x w pl Z:=by
 have hs:∀ n,lk (apply st dst uid ⟨rt,ro,v,[],[]⟩).s n=lk st.s n:=by
  intro n;rw [vd];simp only [lk,x0o,x17,olds,names,x18,List.filter_nil,x0l];cases lk st.s n<;>simp [Ob.drop_nil]
 refine ⟨⟨rfl,rfl,rfl,x0r _,fun _ _ _=>rfl⟩,R.fr,fun n _=>⟨rfl,rfl,rfl⟩,fun n o o' _ h=>by simp [lk] at h,fun _ h=>h,fun _ h=>.inl h,
  fun n o' h=>by simp [lk] at h,fun n m h=>by simp [names] at h,fun d hd=>⟨Tr.congr hs h,TV.inU_mono (fun _ h=>qh h) hu⟩,
  fun i _ n row h=>by simp [lk] at h,fun i _ n t rows p h=>by simp [lk] at h⟩
def RdT (rt:List (Nat × TV)) (st:St):Prop:=∀ p∈rt,lk st.t p.1=some p.2
def RdO (ro:List (Nat × Ob)) (st:St):Prop:=∀ p∈ro,lk st.s p.1=some p.2
theorem RdT.append {a b:List (Nat × TV)} {st:St}:RdT (a++b) st↔RdT a st/\RdT b st:=by
 simp only [RdT,xzs]; exact ⟨fun h=>⟨fun p hp=>h p (.inl hp),fun p hp=>h p (.inr hp)⟩,fun h p hp=>hp.elim (h.1 p) (h.2 p)⟩
theorem RdO.append {a b:List (Nat × Ob)} {st:St}:RdO (a++b) st↔RdO a st/\RdO b st:=by
 simp only [RdO,xzs]; exact ⟨fun h=>⟨fun p hp=>h p (.inl hp),fun p hp=>h p (.inr hp)⟩,fun h p hp=>hp.elim (h.1 p) (h.2 p)⟩
theorem RdT.nil {st:St}:RdT [] st:=fun p hp=>by cases hp
theorem RdO.nil {st:St}:RdO [] st:=fun p hp=>by cases hp
theorem RdO.cons {n:Nat} {o:Ob} {r:List (Nat × Ob)} {st:St}:RdO ((n,o)::r) st↔lk st.s n=some o/\RdO r st:=by
 simp only [RdO,xzn];exact ⟨fun h=>⟨h (n,o) (.inl rfl),fun p hp=>h p (.inr hp)⟩,fun h p hp=>hp.elim (fun e=>by subst e; exact h.1) (h.2 p)⟩
theorem RdT.cons {n:Nat} {o:TV} {r:List (Nat × TV)} {st:St}:RdT ((n,o)::r) st↔lk st.t n=some o/\RdT r st:=by
 simp only [RdT,xzn];exact ⟨fun h=>⟨h (n,o) (.inl rfl),fun p hp=>h p (.inr hp)⟩,fun h p hp=>hp.elim (fun e=>by subst e; exact h.1) (h.2 p)⟩
def Ev (P:Program) (x:Operand) (rt:List (Nat × TV)) (v:TV):Prop :=
 ∀ (cx:Cx) (st:St) (a:Act) (w:World) (pl:Pl) (Z:Nat->Prop),Rel P cx st a w pl Z->RdT rt st->Tr P st pl Z w v (a.eval x)/\v.inU st.u=true
def Good (P:Program) (o:Oper) (uid:Nat) (pk:Pk):Prop :=
 ∀
  (cx:Cx) (st:St) (a:Act) (w:World) (pl:Pl) (Z:Nat->Prop),Rel P cx st a w pl Z->RdT pk.rt st->RdO pk.ro st->okPk st uid pk=true ->
  ∀
   (K:Act->World->Prop) (Q:Exit->Act->World->Prop),
   (∀ x w' pl' Z',Step P cx st w pl Z o.dst uid pk x w' pl' Z'->K (a.put o.dst x) w')->o.wp P a w K Q
theorem Good.value {P:Program} {o:Oper} {uid:Nat} {rt:List (Nat × TV)} {ro:List (Nat × Ob)} {v:TV}
 (h:∀ (cx:Cx) (st:St) (a:Act) (w:World) (pl:Pl) (Z:Nat->Prop),Rel P cx st a w pl Z->RdT rt st->RdO ro st ->
   ∃ x,(execOp a.eval o).run P w=.ok (.value x) w/\Tr P st pl Z w v x/\v.inU st.u=true):Good P o uid ⟨rt,ro,v,[],[]⟩:=by
 intro cx st a w pl Z R ht ho hok K Q hK;obtain ⟨x,h1,h2,h3⟩:=h cx st a w pl Z R ht ho;unfold Oper.wp;rw [h1];exact hK x w pl Z (Step.quiet R h2 h3)
section
variable {E:Env}
theorem xk {st:St} {ty:Nat} {x:Operand} {k:List (Nat × TV)->TV->Prop} (h:getX E st ty x k):∃ rt v,k rt v/\RdT rt st/\Ev E.P x rt v:=by
 unfold getX at h
 split at h
 · rename_i i
   split at h
   · rename_i v hv;refine ⟨_,_,h,fun p hp=>by simp at hp; subst hp; exact hv,?_⟩;intro cx st' a w pl Z R ht;have hv':=ht (i,v) (by simp);obtain ⟨y,h1,h2⟩:=R.tmp i v hv';refine ⟨?_,R.ut i v hv'⟩;simp only [Act.eval,x0s,h1,x1v];exact h2
   · exact h.elim
 · rename_i v
   split at h
   · unfold tyE at h
     split at h
     · exact ⟨_,_,h,RdT.nil,fun cx st' a w pl Z R _=>⟨rfl,rfl⟩⟩
     · exact h.elim
   all_goals first
    | exact h.elim
    | skip
   rename_i h1 h2 h3 h4 h5 h6 h7 h8;refine ⟨_,_,h,RdT.nil,fun cx st' a w pl Z R _=>⟨⟨rfl,?_⟩,rfl⟩⟩
   cases v<;>first|rfl|simp_all
 · exact ⟨_,_,h,RdT.nil,fun cx st' a w pl Z R _=>⟨⟨[],rfl,rfl,fun k av y hk=>by simp at hk⟩,rfl⟩⟩
 · exact h.elim
theorem ky {st:St}:∀ {l:List (Nat × Operand)} {k:List (Nat × TV)->List TV->Prop},getXs E st l k->∃ rt vs,k rt vs/\RdT rt st/\vs.length=l.length /\
 ∀ (j:Nat) (ty:Nat) (x:Operand) (v:TV),l[j]?=some (ty,x)->vs[j]?=some v->∃ rt',Ev E.P x rt' v/\∀ p∈rt',p∈rt
 | [],k,h=>⟨[],[],h,RdT.nil,rfl,fun j ty x v hj=>by simp at hj⟩
 |
  (ty,x)::r,k,h=>by
  obtain ⟨rt,v,h,hr,he⟩:=xk (E:=E) h;obtain ⟨rt',vs,h,hr',hl,he'⟩:=ky h;refine ⟨_,_,h,RdT.append.2 ⟨hr,hr'⟩,by simp [hl],fun j ty x v hj hv=>?_⟩
  cases j with
  | zero=>simp at hj hv; obtain ⟨_,rfl⟩:=hj; subst hv; exact ⟨rt,he,fun p hp=>xzt _ hp⟩
  | succ j =>
    simp at hj hv;obtain ⟨rt'',h1,h2⟩:=he' j ty x v hj hv;exact ⟨rt'',h1,fun p hp=>xzz _ (h2 p hp)⟩
def zOk:AV->Value->Bool
 | .prim (.int k 0),.int j n=>kB k j && n == 0
 | .prim (.bool false),.bool b=>!b
 | .prim (.string s),.string s'=>s.data.toList == [] && s'.data.toList == []
 | .prim (.pointer none),.pointer none=>true
 | .prim .nilFunc,.nilFunc=>true
 | .emp _,.slice none 0 0=>true
 | _,_=>false
def zsOk:List AV->List Value->Bool
 | [],[]=>true
 | a::r,x::r'=>zOk a x && zsOk r r'
 | _,_=>false
def fsOk (P:Program):List (Nat × Nat)->List Field->Bool
 | [],[]=>true
 | (o,t)::r,f::r'=>Nat.beq o f.offset && Nat.beq t f.type && !(P.cellsOf f.type == 0) && (P.info? f.type).isSome && fsOk P r r'
 | _,_=>false
def tdOk (P:Program) (z:List AV) (n:Nat):TD->TypeDesc->Bool
 | .sc,.int k=>(match z with|[.prim (.int j _)]=>kB k j|_=>false) && n == 1
 | .sc,.bool=>(match z with|[.prim (.bool _)]=>true|_=>false) && n == 1
 | .sc,.string=>(match z with|[.prim (.string _)]=>true|_=>false) && n == 1
 | .sc,.func ..=>(match z with|[.prim .nilFunc]=>true|_=>false) && n == 1
 | .slice e,.slice e'=>Nat.beq e e' && n == 1 && (match z with|[.emp e'']=>Nat.beq e e''|_=>false)
 | .ptr e,.pointer e'=>Nat.beq e e' && n == 1
 | .strct fs,.struct fields=>fsOk P fs fields.toList
 | _,_=>false
def tiB (P:Program) (t:Nat) (ti:TI):Bool :=
 match P.info? t,P.underlying t with
 | some i,some d=>Nat.beq i.size ti.n && !(i.size == 0) && Nat.ble i.bytes 1048576 && (Nat.ble ti.n 30 && Nat.beq ti.z.length ti.n) && (match i.zero with|some z=>zsOk ti.z z.cells.toList|none=>false) && tdOk P ti.z ti.n ti.d d
 | _,_=>false
def tabB (E:Env):Bool:=E.T.all fun p=>tiB E.P p.1 p.2
theorem xkl {j k:IntKind} (h:kB j k=true):j=k:=by cases j<;>cases k<;>first|rfl|cases h
structure TIok (P:Program) (t:Nat) (ti:TI):Prop where
 small:ti.n<=30
 zl:ti.z.length=ti.n
 ex:∃ i d z,P.info? t=some i/\P.underlying t=some d/\i.size=ti.n/\i.size≠0/\i.bytes<=1048576/\i.zero=some z/\zsOk ti.z z.cells.toList=true/\tdOk P ti.z ti.n ti.d d=true
theorem xu5 {P:Program} {t:Nat} {ti:TI} (h:tiB P t ti=true):TIok P t ti:=by
 unfold tiB at h
 split at h
 · rename_i i d hi hd;simp only [xzj] at h;obtain ⟨⟨⟨⟨⟨h1,h2⟩,h3⟩,h3'⟩,h4⟩,h5⟩:=h
   split at h4
   · rename_i z hz;exact ⟨x0v h3'.1,xz2 h3'.2,i,d,z,hi,hd,xz2 h1,by simpa using h2,x0v h3,hz,h4,h5⟩
   · cases h4
 · cases h
theorem wg {E:Env} (h:tabB E=true) {t:Nat} {ti:TI} (ht:lk E.T t=some ti):TIok E.P t ti :=
 xu5 (xzl.1 h (t,ti) (ym ht))
theorem xu6 {P:Program} {st:St} {pl:Pl} {Z:Nat->Prop} {w:World} {a:AV} {x:Value} (h:zOk a x=true):Ar P st pl Z w a x/\a.inU []=true:=by
 unfold zOk at h
 split at h<;>first|cases h|skip
 · rename_i k j n;simp only [xzj,x1d] at h;obtain ⟨h1,h2⟩:=h;have:=xkl h1;subst this; subst h2;exact ⟨⟨rfl,rfl⟩,rfl⟩
 · rename_i b; cases b
   · exact ⟨⟨rfl,rfl⟩,rfl⟩
   · cases h
 · rename_i s s';simp only [xzj,x1d] at h;refine ⟨⟨?_,rfl⟩,rfl⟩;obtain ⟨⟨l⟩⟩:=s; obtain ⟨⟨l'⟩⟩:=s';simp at h; obtain ⟨rfl,rfl⟩:=h; rfl
 · exact ⟨⟨rfl,rfl⟩,rfl⟩
 · exact ⟨⟨rfl,rfl⟩,rfl⟩
 · exact ⟨rfl,rfl⟩
theorem xbl {P:Program} {st:St} {pl:Pl} {Z:Nat->Prop} {w:World}:∀ {as1:List AV} {xs:List Value},zsOk as1 xs=true->Ars P st pl Z w as1 xs/\∀ u,as1.all (AV.inU u)=true
 | [],[],_=>⟨⟨rfl,fun k av y hk=>by simp at hk⟩,fun _=>rfl⟩
 | a::r,x::r',h=>by
   simp only [zsOk,xzj] at h;obtain ⟨h1,h2⟩:=xu6 (P:=P) (st:=st) (pl:=pl) (Z:=Z) (w:=w) h.1;obtain ⟨⟨h3,h4⟩,h5⟩:=xbl (P:=P) (st:=st) (pl:=pl) (Z:=Z) (w:=w) h.2;refine ⟨⟨by simp [h3],fun k av y hk hy=>?_⟩,fun u=>by simp [h5 u,AV.inU_mono (u:=[]) (u':=u) (fun n hn=>by simp [memN] at hn) h2]⟩
   cases k with
   | zero=>simp at hk hy; subst hk; subst hy; exact h1
   | succ k=>exact h4 k av y (by simpa using hk) (by simpa using hy)
 | [],_::_,h=>by cases h
 | _::_,[],h=>by cases h
theorem TIok.cells {P:Program} {t:Nat} {ti:TI} (h:TIok P t ti):P.cellsOf t=ti.n:=by
 obtain ⟨i,d,z,h1,_,h2,_⟩:=h.ex;simp [Program.cellsOf,h1,h2]
theorem TIok.agg {P:Program} {t:Nat} {ti:TI} (h:TIok P t ti) (w:World):(isAgg t).run P w=.ok (isAggD ti.d) w:=by
 obtain ⟨i,d,z,h1,hd,h2,_,_,_,_,h5⟩:=h.ex;unfold isAgg;simp only [Sem.run_bind,run_underlying hd,Result.andThen_ok];cases htd:ti.d<;>rw [htd] at h5<;>cases d<;>simp [tdOk] at h5<;>rfl
theorem TIok.size {P:Program} {t:Nat} {ti:TI} (h:TIok P t ti) (w:World):(sizeOf t).run P w=.ok ti.n w:=by
 obtain ⟨i,d,z,h1,hd,h2,_⟩:=h.ex;simp [sizeOf,typeInfo,h1,h2]
theorem TIok.one {P:Program} {t:Nat} {ti:TI} (h:TIok P t ti) (ha:isAggD ti.d=false):ti.n=1:=by
 obtain ⟨i,d,z,h1,hd,h2,_,_,_,_,h5⟩:=h.ex;cases htd:ti.d<;>rw [htd] at h5<;>cases d<;>simp [tdOk] at h5<;>simp_all [isAggD]
theorem TIok.pos {P:Program} {t:Nat} {ti:TI} (h:TIok P t ti):0<ti.n:=by
 obtain ⟨i,d,z,h1,hd,h2,h3,_⟩:=h.ex;omega
theorem TIok.zlen {P:Program} {t:Nat} {ti:TI} (h:TIok P t ti):∃ i z,P.info? t=some i/\i.zero=some z/\zsOk ti.z z.cells.toList=true/\i.size=ti.n/\i.bytes<=1048576:=by
 obtain ⟨i,d,z,h1,hd,h2,h3,h4,h5,h6,h7⟩:=h.ex;exact ⟨i,z,h1,h5,h6,h2,h4⟩
theorem TIok.slice {P:Program} {t e n:Nat} {z:List AV} (h:TIok P t ⟨.slice e,n,z⟩):P.underlying t=some (.slice e):=by
 obtain ⟨i,d,z',h1,hd,h2,h3,h4,h5,h6,h7⟩:=h.ex;cases d<;>simp [tdOk] at h7;rw [hd,h7.1.1]
theorem TIok.ptr {P:Program} {t e n:Nat} {z:List AV} (h:TIok P t ⟨.ptr e,n,z⟩):P.underlying t=some (.pointer e):=by
 obtain ⟨i,d,z',h1,hd,h2,h3,h4,h5,h6,h7⟩:=h.ex;cases d<;>simp [tdOk] at h7;rw [hd,h7.1]
theorem TIok.strct {P:Program} {t n:Nat} {fs:List (Nat × Nat)} {z:List AV} (h:TIok P t ⟨.strct fs,n,z⟩):∃ fields:Array Field,P.underlying t=some (.struct fields)/\fsOk P fs fields.toList=true:=by
 obtain ⟨i,d,z',h1,hd,h2,h3,h4,h5,h6,h7⟩:=h.ex;cases d<;>simp [tdOk] at h7;exact ⟨_,hd,h7⟩
theorem xbm {P:Program}:∀ {fs:List (Nat × Nat)} {l:List Field} {k o t:Nat},fsOk P fs l=true->fieldOf fs k=some (o,t)->∃ f:Field,l[k]?=some f/\f.offset=o/\f.type=t/\P.cellsOf t≠0/\∃ i,P.info? t=some i
 | [],_,k,o,t,_,h=>by cases k<;>cases h
 | (o',t')::r,[],k,o,t,h,_=>by simp [fsOk] at h
 |
  (o',t')::r,f::l,k,o,t,h,hf=>by
  simp only [fsOk,xzj] at h
  cases k with
  | zero =>
    simp [fieldOf] at hf;obtain ⟨rfl,rfl⟩:=hf;obtain ⟨i,hi⟩:=x0n.1 h.1.2;have e1:=xz2 h.1.1.1.1;have e2:=xz2 h.1.1.1.2;refine ⟨f,rfl,e1.symm,e2.symm,?_,i,by rw [e2]; exact hi⟩;rw [e2]; simpa using h.1.1.2
  | succ k=>exact xbm (fs:=r) (l:=l) (k:=k) h.2 hf
end
end Go.AM
end
section
namespace Go.AM
open Go
theorem yb:∀ (n:Nat) (l:List AV),takeC n l=l.take n
 | 0,_=>by simp [takeC]
 | n+1,a::r=>by simp [takeC,yb n r]
 | n+1,[]=>by simp [takeC]
theorem yc:∀ (n:Nat) (l:List AV),dropC n l=l.drop n
 | 0,_=>by simp [dropC]
 | n+1,a::r=>by simp [dropC,yc n r]
 | n+1,[]=>by simp [dropC]
theorem y6:∀ {n:Nat} {l:List AV},leLen n l=true↔n<=l.length
 | 0,_=>by simp [leLen]
 | n+1,a::r=>by simp [leLen,y6 (n:=n) (l:=r)]
 | n+1,[]=>by simp [leLen]
theorem zu:∀ {l:List AV} {n:Nat},lenIs l n=true↔l.length=n
 | [],0=>by simp [lenIs]
 | [],n+1=>by simp [lenIs]
 | a::r,0=>by simp [lenIs]
 | a::r,n+1=>by simp [lenIs,zu (l:=r) (n:=n)]
theorem xa0 {f:AV->Bool}:∀ {l:List AV},allB f l=true↔∀ a∈l,f a=true
 | []=>by simp [allB]
 | a::r=>by simp only [allB]; cases h:f a<;>simp [h,xa0 (l:=r)]
theorem xcd {l:List AV} {off n k:Nat} {av:AV} (h:(takeC n (dropC off l))[k]?=some av):k<n/\l[off+k]?=some av:=by
 rw [yb,yc,xz7] at h
 split at h
 · rename_i hk; exact ⟨hk,by simpa using h⟩
 · cases h
theorem xce {l:List AV} {off n:Nat} (h:leLen (off+n) l=true):(takeC n (dropC off l)).length=n:=by
 rw [yb,yc]; have:=y6.1 h; simp; omega
section
variable {E:Env} (hT:tabB E=true)
include hT
theorem zf {t:Nat} {k:TI->Prop} (h:tyI E t k):∃ ti,TIok E.P t ti/\lk E.T t=some ti/\k ti:=by
 unfold tyI at h
 split at h
 · rename_i ti ht; exact ⟨ti,wg hT ht,ht,h⟩
 · exact h.elim
theorem xx8 {t:Nat} {k:Nat->Prop} (h:tyE E t k):∃ e,E.P.underlying t=some (.slice e)/\k e:=by
 unfold tyE at h
 split at h
 · rename_i e n z ht; exact ⟨e,(wg hT ht).slice,h⟩
 · exact h.elim
end
theorem yi {st:St}:∀ {ns:List Nat} {k:List (Nat × Ob)->Prop},alive st ns k->∃ ro,k ro/\RdO ro st/\∀ st',RdO ro st'->∀ n∈ns,st'.has n
 | [],k,h=>⟨[],h,RdO.nil,fun _ _ n hn=>by cases hn⟩
 | n::r,k,h=>by
   unfold alive at h
   split at h
   · rename_i o ho;obtain ⟨ro,h1,h2,h3⟩:=yi h;refine ⟨_,h1,RdO.cons.2 ⟨ho,h2⟩,fun st' hr m hm=>?_⟩;obtain ⟨h4,h5⟩:=RdO.cons.1 hr;rcases xzn.1 hm with rfl|hm
     · unfold St.has St.O; rw [h4]; rfl
     · exact h3 st' h5 m hm
   · exact h.elim
theorem qb (b o k:Nat):(⟨b,o,none⟩:Addr).add k=⟨b,o+k,none⟩:=by unfold Addr.add; split<;>simp_all
theorem vu {P:Program} {w:World} {t:Nat} {ti:TI} (h:TIok P t ti) (b o:Nat) (xs:List Value) (hl:xs.length=ti.n)
 (hc:∀ k x,xs[k]?=some x->w.cell? ⟨b,o+k,none⟩=some x) :
 (loadVar t ⟨b,o,none⟩).run P w=.ok (bif isAggD ti.d then .agg xs.toArray else xs.getD 0 undef) w:=by
 unfold loadVar;simp only [Sem.run_bind,h.agg,Result.andThen_ok];cases ha:isAggD ti.d
 · have h1:=h.one ha;rw [h1] at hl
   match xs,hl with
   | [x],_ =>
     have h0:=hc 0 x rfl;rw [x31] at h0;simp [h0]
 · have hr:(loadCells ⟨b,o,none⟩ xs.length).run P w=.ok xs.toArray w:=run_loadCells_list w _ _ fun j v hv=>by rw [qb]; exact hc j v hv
   rw [hl] at hr;simp [h.size,hr]
theorem xgz {P:Program} {st:St} {pl:Pl} {Z:Nat->Prop} {w:World} {ag:Bool} {cs:List AV} {xs:List Value} (h:Ars P st pl Z w cs xs) (hn:ag=false->cs.length=1) :
 Tr P st pl Z w (mkTV ag cs) (bif ag then .agg xs.toArray else xs.getD 0 undef):=by
 cases ag
 · match cs,hn rfl with
   | [v],_ =>
     match xs,h.1 with
     | [x],_=>exact h.2 0 v x rfl rfl
 · exact ⟨xs,rfl,h⟩
theorem xd4 {u:List Nat} {ag:Bool} {cs:List AV} (h:cs.all (AV.inU u)=true):(mkTV ag cs).inU u=true:=by
 cases ag
 · match cs with
   | [v]=>simpa [mkTV,TV.inU] using h
   | []=>rfl
   | _::_::_=>rfl
 · exact h
theorem xu7 {P:Program} {st:St} {pl:Pl} {Z:Nat->Prop} {w:World} {ns:List Nat} {av:AV} {x:Value} (h:Rd P w (Sup pl Z ns) av x):A0 P st pl Z w (peek0 ns av) x:=by
 cases h with
 | prim h=>exact ⟨rfl,h⟩
 | emp=>rfl
 | sl hm hl hcap hw hn hb hc hr=>exact fun _=>.sl hm hl hcap hw hn hb hc hr
 | fr h=>exact fun _=>h
 | fp hb hn hc hr=>exact fun _=>.fp hb hn hc hr
 | fn=>trivial
theorem xwz {P:Program} {st:St} {pl:Pl} {Z:Nat->Prop} {w:World} {ns:List Nat} {av:AV} {x:Value} (h:Rd P w (Sup pl Z ns) av x):Ar P st pl Z w (peek ns av) x:=by
 cases h with
 | prim h=>exact ⟨rfl,h⟩
 | emp=>rfl
 | sl hm hl hcap hw hn hb hc hr=>exact fun _=>.sl hm hl hcap hw hn hb hc hr
 | fr h=>exact fun _=>h
 | fp hb hn hc hr=>exact fun _=>.fp hb hn hc hr
 | fn hn hr =>
   refine ⟨_,rfl,by rw [xzi]; exact hn,fun k av y hk hy=>?_⟩;rw [xzr,xz0] at hk;obtain ⟨c,hc,rfl⟩:=hk;exact xu7 (hr k c y hc hy)
theorem xu8 {P:Program} {st:St} {pl:Pl} {Z:Nat->Prop} {w:World} {n:Nat} {av:AV} {x:Value} {f:List Nat} (h:Ow P w Z av x f) (hf:∀ b∈f,b∈pl.own n):Ar P st pl Z w (peekA n av) x:=by
 have hr:Rd P w (Sup pl Z [n]) av x:=h.rd (fun b hb=>.inr ⟨n,by simp,hf b hb⟩) fun b hb=>.inl hb
 cases h with
 | prim h=>exact ⟨rfl,h⟩
 | sl=>exact fun _=>hr
 | fr0 h=>exact fun _=>h.mono (fun b hb=>.inl hb) fun _ _=>rfl
 | fp=>trivial
theorem xu9 {u ns:List Nat} {av:AV} (h:∀ n∈ns,memN (n / 64) u=true):(peek ns av).inU u=true:=by
 cases av with
 | fn f caps =>
   simp only [peek,AV.inU,xzl];intro a ha;obtain ⟨c,-,rfl⟩:=xzv.1 ha
   cases c<;>simp only [peek0,AV.inU,xzl]<;>first|rfl|exact h
 | _=>simp only [peek,peek0,AV.inU,xzl]<;>first|rfl|exact h
theorem xsh {u:List Nat} {n:Nat} {av:AV} (h:memN (n / 64) u=true):(peekA n av).inU u=true:=by
 cases av with
 | sl t r=>simpa [peekA,AV.inU] using h
 | fr ns t r=>cases ns<;>rfl
 | _=>rfl
section
variable {P:Program} {o:Oper} {uid:Nat}
theorem xi4 {x:Operand} (ho:o.op=.move x\/o.op=.assign x) {rt:List (Nat × TV)} {v:TV} (he:Ev P x rt v):Good P o uid ⟨rt,[],v,[],[]⟩ :=
 Good.value fun cx st a w pl Z R ht _=>by
  obtain ⟨h1,h2⟩:=he cx st a w pl Z R ht;exact ⟨a.eval x,by rcases ho with ho|ho<;>simp [execOp,ho],h1,h2⟩
theorem xi5 {c x y:Operand} (ho:o.op=.pick c x y) {rt rt':List (Nat × TV)} {b:Bool} {v:TV} (hc:Ev P c rt (.one (.prim (.bool b)))) (he:Ev P (bif b then x else y) rt' v) :
 Good P o uid ⟨rt++rt',[],v,[],[]⟩ :=
 Good.value fun cx st a w pl Z R ht _=>by
  obtain ⟨ht1,ht2⟩:=RdT.append.1 ht;obtain ⟨⟨h0,_⟩,_⟩:=hc cx st a w pl Z R ht1;obtain ⟨h1,h2⟩:=he cx st a w pl Z R ht2;refine ⟨a.eval (bif b then x else y),?_,h1,h2⟩;simp only [execOp,ho,h0,asBool];cases b<;>simp
theorem xsi {x:Operand} (ho:o.op=.nilCheck x) {rt:List (Nat × TV)} {n i off:Nat} {ob:Ob} (he:Ev P x rt (.one (.ptr n i off))):Good P o uid ⟨rt,[(n,ob)],.one (.ptr n i off),[],[]⟩ :=
 Good.value fun cx st a w pl Z R ht hro=>by
  obtain ⟨h1,h2⟩:=he cx st a w pl Z R ht;have h3:=h1 ob (RdO.cons.1 hro).1;refine ⟨a.eval x,?_,h1,h2⟩;simp only [execOp,ho,h3];rfl
theorem xsj {x:Operand} (ho:o.op=.nilCheck x) {rt:List (Nat × TV)} {ro:List (Nat × Ob)} {ns:List Nat} {row:List AV} {off:Nat} (he:Ev P x rt (.one (.fp ns row off)))
 (hal:∀ st',RdO ro st'->∀ n∈ns,st'.has n):Good P o uid ⟨rt,ro,.one (.fp ns row off),[],[]⟩ :=
 Good.value fun cx st a w pl Z R ht hro=>by
  obtain ⟨h1,h2⟩:=he cx st a w pl Z R ht;have h3:Rd P w (Sup pl Z ns) (.fp [] row off) (a.eval x):=h1 (hal st hro);refine ⟨a.eval x,?_,h1,h2⟩;simp only [execOp,ho];generalize a.eval x=y at h3 ⊢;cases h3;rfl
theorem xva {op:BinOp} {t:Nat} {ti:TI} (hti:TIok P t ti) {x y:Operand} {a b:Value} {k:Value->Prop} (h:binV (isBoolT ti) op a b k):∃ c,k c/\c.oneCell'=true/\∀ w,
 (do eqGuard op t x y a b; binOp op t a b:Go.Sem Value).run P w=.ok c w:=by
 unfold binV at h
 split at h
 · rename_i j a j' b;have hg:∀ w,(eqGuard op t x y (.int j a) (.int j' b)).run P w=.ok () w:=by
    intro w; unfold eqGuard; split<;>simp
   split at h
   all_goals first
    | exact h.elim
    | skip
   all_goals (rename_i hk; have hkk:=xkl hk; subst hkk; clear hk)
   · obtain ⟨c,rfl,h⟩:=h; exact ⟨_,h,rfl,fun w=>by simp [hg,binOp,Op.intArith]⟩
   · obtain ⟨c,rfl,h⟩:=h; exact ⟨_,h,rfl,fun w=>by simp [hg,binOp,Op.intArith]⟩
   · obtain ⟨c,rfl,h⟩:=h; exact ⟨_,h,rfl,fun w=>by simp [hg,binOp,Op.intArith]⟩
   · obtain ⟨h0,c,rfl,h⟩:=h; exact ⟨_,h,rfl,fun w=>by simp [hg,binOp,Op.intDiv,h0]⟩
   · obtain ⟨h0,c,rfl,h⟩:=h; exact ⟨_,h,rfl,fun w=>by simp [hg,binOp,Op.intDiv,h0]⟩
   · obtain ⟨c,rfl,h⟩:=h; exact ⟨_,h,rfl,fun w=>by simp [hg,binOp,Op.intBits]⟩
   · exact ⟨_,h,rfl,fun w=>by simp [hg,binOp,Op.intCmp]⟩
   · exact ⟨_,h,rfl,fun w=>by simp [hg,binOp,Op.intCmp]⟩
   · exact ⟨_,h,rfl,fun w=>by simp [hg,binOp,Op.intCmp]⟩
   · exact ⟨_,h,rfl,fun w=>by simp [hg,binOp,Op.intCmp]⟩
   · exact ⟨_,h,rfl,fun w=>by simp [hg,binOp,Op.intCmp]⟩
   · exact ⟨_,h,rfl,fun w=>by simp [hg,binOp,Op.intCmp]⟩
 · rename_i a b;have hg:∀ w,(eqGuard op t x y (.bool a) (.bool b)).run P w=.ok () w:=by
    intro w; unfold eqGuard; split<;>simp
   have hB:isBoolT ti=true->P.underlying t=some .bool:=by
    intro hb;obtain ⟨i,d,z,h1,hd,h2,h3,h4,h5,h6,h7⟩:=hti.ex;unfold isBoolT at hb
    split at hb
    · rename_i e1 e2;rw [e1,e2] at h7;cases d<;>simp [tdOk] at h7;exact hd
    · cases hb
   split at h
   · rename_i hb; refine ⟨_,h,rfl,fun w=>?_⟩;have:=run_eql_bool (P:=P) w t a b (hB hb);simp [hg,this]
   · rename_i hb; refine ⟨_,h,rfl,fun w=>?_⟩;have:=run_equal_bool (P:=P) w t a b (hB hb);simp [hg,binOp,this]
   · exact h.elim
 · rename_i a b;have hg:∀ w,(eqGuard op t x y (.string a) (.string b)).run P w=.ok () w:=by
    intro w; unfold eqGuard; split<;>simp
   split at h
   · obtain ⟨h0,h⟩:=h; refine ⟨_,h,rfl,fun w=>?_⟩;simp [hg,binOp,Op.stringOp,IntKind.max,IntKind.signed,IntKind.bits];omega
   · exact ⟨_,h,rfl,fun w=>by simp [hg,binOp,Op.stringOp]⟩
   · exact ⟨_,h,rfl,fun w=>by simp [hg,binOp,Op.stringOp]⟩
   · exact h.elim
 · exact h.elim
theorem xvb {op:BinOp} {t ty:Nat} {x y:Operand} (ho:o.op=.binOp op t x y ty) {rt rt':List (Nat × TV)} {a b c:Value} (hx:Ev P x rt (.one (.prim a))) (hy:Ev P y rt' (.one (.prim b)))
 (hr:∀ w,(do eqGuard op t x y a b; binOp op t a b:Go.Sem Value).run P w=.ok c w) (h1:c.oneCell'=true):Good P o uid ⟨rt++rt',[],.one (.prim c),[],[]⟩ :=
 Good.value fun cx st a' w pl Z R ht _=>by
  obtain ⟨ht1,ht2⟩:=RdT.append.1 ht;obtain ⟨⟨e1,_⟩,_⟩:=hx cx st a' w pl Z R ht1;obtain ⟨⟨e2,_⟩,_⟩:=hy cx st a' w pl Z R ht2;refine ⟨c,?_,⟨rfl,h1⟩,rfl⟩;have:=hr w;simp only [execOp,ho,e1,e2];simp only [Sem.run_bind,Sem.run_pure] at this ⊢;simp [this]
theorem xw0 {op:UnOp} {a:Value} {k:Value->Prop} (h:unV op a k):∃ c,k c/\c.oneCell'=true/\∀ w,(Op.unary op a).run P w=.ok c w:=by
 unfold unV at h
 split at h
 · obtain ⟨c,rfl,h⟩:=h; exact ⟨_,h,rfl,fun w=>by simp [Op.unary,Op.intArith]⟩
 · exact ⟨_,h,rfl,fun w=>by simp [Op.unary]⟩
 · exact h.elim
theorem xw1 {op:UnOp} {t:Nat} {x:Operand} (ho:o.op=.unOp op t x) {rt:List (Nat × TV)} {a c:Value} (hx:Ev P x rt (.one (.prim a))) (hr:∀ w,(Op.unary op a).run P w=.ok c w) (h1:c.oneCell'=true) :
 Good P o uid ⟨rt,[],.one (.prim c),[],[]⟩ :=
 Good.value fun cx st a' w pl Z R ht _=>by
  obtain ⟨⟨e1,_⟩,_⟩:=hx cx st a' w pl Z R ht;exact ⟨c,by simp [execOp,ho,e1,hr w],⟨rfl,h1⟩,rfl⟩
theorem xp5 {src dst:Nat} {x:Operand} (ho:o.op=.convert src dst x) {rt:List (Nat × TV)} {j k:IntKind} {n:Int} (hd:P.underlying dst=some (.int j)) (hs:(P.underlying src).isSome=true) (hx:Ev P x rt (.one (.prim (.int k n)))) :
 Good P o uid ⟨rt,[],.one (.prim (.int j (j.wrap n))),[],[]⟩ :=
 Good.value fun cx st a' w pl Z R ht _=>by
  obtain ⟨⟨e1,_⟩,_⟩:=hx cx st a' w pl Z R ht;refine ⟨.int j (j.wrap n),?_,⟨rfl,rfl⟩,rfl⟩;obtain ⟨d,hs⟩:=x0n.1 hs;simp only [execOp,ho,e1,convert];simp only [Sem.run_bind,run_underlying hs,run_underlying hd,Result.andThen_ok];cases d<;>simp [Conv.intToInt]
theorem xko {x:Operand} {i:Nat} (ho:o.op=.extract x i) {rt:List (Nat × TV)} {vs:List (Bool × List AV)} {ag:Bool} {cs:List AV} (hx:Ev P x rt (.tup vs)) (hi:vs[i]?=some (ag,cs)) (hn:ag=false->cs.length=1) :
 Good P o uid ⟨rt,[],mkTV ag cs,[],[]⟩ :=
 Good.value fun cx st a' w pl Z R ht _=>by
  obtain ⟨⟨xs,h1,h2,h3⟩,h4⟩:=hx cx st a' w pl Z R ht;have hlt:i<xs.length:=by rw [h2]; exact (xzm.1 hi).1
  obtain ⟨ys,h5,h6⟩:=h3 i ag cs _ hi (xzh hlt);refine ⟨_,?_,xgz h5 hn,?_⟩
  · simp only [execOp,ho,h1,Instr.extract];simp [xzh hlt,h6]
  · simp only [TV.inU,xzl] at h4;exact xd4 (xzl.2 (h4 _ (xzy hi)))
theorem xsk (pl:Pl) (ob:Ob) (n i off k:Nat):(ptrAt P pl ob n i off).add k=ptrAt P pl ob n i (off+k):=by
 cases ob<;>simp only [ptrAt,qb,x1m]
theorem xfo {w:World} {s f fo ft:Nat} {fs:List (Nat × Nat)} {n:Nat} {z:List AV} (h:TIok P s ⟨.strct fs,n,z⟩) (hf:fieldOf fs f=some (fo,ft)) (ad:Addr) :
 (Instr.fieldAt s (.pointer (some ad)) f).run P w=.ok (.pointer (some (ad.add fo))) w:=by
 obtain ⟨fields,hu,hfs⟩:=h.strct;obtain ⟨fd,h1,h2,h3,h4,i,hi⟩:=xbm hfs hf;have h1':fields[f]?=some fd:=by simpa using h1
 have hz:i.size≠0:=by simpa [Program.cellsOf,hi] using h4
 simp [Instr.fieldAt,run_underlying hu,h1',Instr.sureAddr,fieldPlace,sizeOf,typeInfo,h2,h3,hi,hz]
theorem xna {s f fo ft n':Nat} {fs:List (Nat × Nat)} {z:List AV} {x:Operand} (ho:o.op=.fieldAddr s x f) (hT:TIok P s ⟨.strct fs,n',z⟩) (hf:fieldOf fs f=some (fo,ft)) {rt:List (Nat × TV)} {n i off:Nat} {ob:Ob}
 (he:Ev P x rt (.one (.ptr n i off))):Good P o uid ⟨rt,[(n,ob)],.one (.ptr n i (off+fo)),[],[]⟩ :=
 Good.value fun cx st a w pl Z R ht hro=>by
  obtain ⟨h1,h2⟩:=he cx st a w pl Z R ht;have h3:=h1 ob (RdO.cons.1 hro).1;refine ⟨.pointer (some (ptrAt P pl ob n i (off+fo))),?_,?_,h2⟩
  · have:=xfo (w:=w) hT hf (ptrAt P pl ob n i off);rw [xsk] at this;simp [execOp,ho,h3,this]
  · intro ob' hob';have:ob'=ob:=x0f (hob'.symm.trans (RdO.cons.1 hro).1);rw [this]
theorem xnb {s f fo ft n':Nat} {fs:List (Nat × Nat)} {z:List AV} {x:Operand} (ho:o.op=.fieldAddr s x f) (hT:TIok P s ⟨.strct fs,n',z⟩) (hf:fieldOf fs f=some (fo,ft)) {rt:List (Nat × TV)} {ro:List (Nat × Ob)} {ns:List Nat} {row:List AV} {off:Nat}
 (he:Ev P x rt (.one (.fp ns row off))) (hal:∀ st',RdO ro st'->∀ n∈ns,st'.has n):Good P o uid ⟨rt,ro,.one (.fp ns row (off+fo)),[],[]⟩ :=
 Good.value fun cx st a w pl Z R ht hro=>by
  obtain ⟨h1,h2⟩:=he cx st a w pl Z R ht;have h3:Rd P w (Sup pl Z ns) (.fp [] row off) (a.eval x):=h1 (hal st hro);generalize hy:a.eval x=y at h3
  cases h3 with
  | @fp _ _ _ b o' cells hb hn hc hr =>
    refine ⟨.pointer (some ⟨b,o'+(off+fo),none⟩),?_,fun _=>.fp hb hn hc hr,h2⟩;have:=xfo (w:=w) hT hf ⟨b,o'+off,none⟩;rw [qb,x1m] at this;simp [execOp,ho,hy,this]
theorem xw2 {w:World} {c:Call} {t ty:Nat} (hu:P.underlying t=some (.slice ty)) (a:Option Addr) (n cap:Nat):(Builtin.len_ #[t] o.type #[.slice a n cap]).run P w=.ok (.int .i64 n) w:=by
 simp [Builtin.len_,run_underlying hu,goInt]
end
end Go.AM
end
section
namespace Go.AM
open Go
section
variable {P:Program} {o:Oper} {uid:Nat}
theorem zi {xs:List Value} {off n k:Nat} {x:Value} (h:((xs.drop off).take n)[k]?=some x):k<n/\xs[off+k]?=some x:=by
 rw [xz7] at h
 split at h
 · rename_i hk; exact ⟨hk,by simpa using h⟩
 · cases h
theorem xp6 {t:Nat} {ti:TI} {x:Operand} (ho:o.op=.load t x) (hT:TIok P t ti) {rt:List (Nat × TV)} {n off:Nat} {row:List AV} (he:Ev P x rt (.one (.ptr n 0 off))) (hl:leLen (off+ti.n) row=true) :
 Good P o uid ⟨rt,[(n,.box row)],mkTV (isAggD ti.d) (takeC ti.n (dropC off row)),[],[]⟩ :=
 Good.value fun cx st a w pl Z R ht hro=>by
  obtain ⟨h1,h2⟩:=he cx st a w pl Z R ht;have hob:=(RdO.cons.1 hro).1;have h3:=h1 _ hob;obtain ⟨hown,c,ty,hc,hsz,hr⟩:=R.obj n _ hob;have hlen:=xce hl;have hll:=y6.1 hl;let xs:=((c.toList.drop ((pl.adr n).2+off)).take ti.n);have hxl:xs.length=ti.n:=by simp [xs]; omega
  have hars:Ars P st pl Z w (takeC ti.n (dropC off row)) xs:=by
   refine ⟨by rw [hxl,hlen],fun k av y hk hy=>?_⟩;obtain ⟨_,hk'⟩:=xcd hk;obtain ⟨_,hy'⟩:=zi hy;exact hr (off+k) av y hk' (by simpa [x1m] using hy')
  refine ⟨_,?_,xgz hars fun ha=>by rw [hlen]; exact hT.one ha,?_⟩
  · have:=vu (w:=w) hT (pl.adr n).1 ((pl.adr n).2+off) xs hxl fun k x hk=>by
     obtain ⟨_,hk'⟩:=zi hk;rw [cell_of_row w _ _ c ty (0,0) hc];simpa using hk'
    simp [execOp,ho,h3,ptrAt,Instr.loadAt,Instr.sureAddr,this]
  · refine xd4 (xzl.2 fun av hav=>?_);rw [yb,yc] at hav;have:=(R.us n _ hob).2;simp only [Ob.inU,xzl] at this;exact this av (x1n (x0u hav))
theorem xgf {rows:List (List AV)} {m i j:Nat} {row:List AV} {av:AV} (hw:∀ r∈rows,r.length=m) (hi:rows[i]?=some row) (hj:row[j]?=some av):rows.flatten[i*m+j]?=some av:=by
 induction rows generalizing i with
 | nil=>simp at hi
 | cons r rs ih =>
   have hr:=hw r (by simp)
   cases i with
   | zero =>
     simp at hi; subst hi;rw [x01,x0a (by have:=(xzm.1 hj).1; omega)];simpa using hj
   | succ i =>
     have:=ih (fun r hr=>hw r (by simp [hr])) (by simpa using hi);rw [x01,xz8 (by rw [hr,x1g]; omega)];rw [show (i+1)*m+j - r.length=i*m+j by rw [hr,x1g]; omega];exact this
theorem xcf {rows:List (List AV)} {m i:Nat} {row:List AV} (hw:∀ r∈rows,r.length=m) (hi:rows[i]?=some row):row.length=m:=hw row (xzy hi)
theorem xsl {n m i k:Nat} (hi:i<n) (hk:k<m):i*m+k<n*m:=by
 have:(i+1)*m<=n*m:=x0b m hi;rw [x1g] at this; omega
theorem xff {cx:Cx} {st:St} {a:Act} {w:World} {pl:Pl} {Z:Nat->Prop} (R:Rel P cx st a w pl Z) {n t:Nat} {rows:List (List AV)} {p:Bool} (hob:lk st.s n=some (.arr t rows p)) (hne:rows≠[]) :
 ∃
  (g cap:Nat) (cur:Array Value) (cells:List Value) (fs:List (List Nat)),pl.hdr n=.slice (some ⟨g,0,none⟩) rows.length cap/\w.heap[g]?=some (.cells cur t (0,0))/\rows.length<=cap/\cap<=maxLen/\cur.size=cap*P.cellsOf t /\
  cur.toList.take (rows.length*P.cellsOf t)=cells/\(∀ row∈rows,row.length=P.cellsOf t)/\cells.length=rows.length*P.cellsOf t/\fs.length=cells.length /\
  (∀ (k:Nat) (av:AV) (x:Value) (f:List Nat),rows.flatten[k]?=some av->cells[k]?=some x->fs[k]?=some f->Ow P w Z av x f)/\pl.own n=g::fs.flatten:=by
 have h:Ow P w Z (.sl t rows) (pl.hdr n) (pl.own n):=R.obj n _ hob;generalize hv:pl.hdr n=v at h;generalize hf:pl.own n=f at h
 cases h with
 | @sl _ _ _ cells fs _ hw hown hlen hr =>
   rcases hown.2 with ⟨rfl,h0⟩|⟨g,cap,cur,rfl,_,hg,hcap,hm,hsz,htake⟩
   · exact absurd (x0k h0) hne
   · exact ⟨g,cap,cur,cells,fs,rfl,hg,hcap,hm,hsz,htake,hw,hown.1,hlen,hr,rfl⟩
theorem xp7 {t:Nat} {ti:TI} {x:Operand} (ho:o.op=.load t x) (hT:TIok P t ti) {rt:List (Nat × TV)} {n i off te:Nat} {rows:List (List AV)} {p:Bool} {row:List AV} (he:Ev P x rt (.one (.ptr n i off)))
 (hrow:rows[i]?=some row) (hl:leLen (off+ti.n) row=true) :
 Good P o uid ⟨rt,[(n,.arr te rows p)],mkTV (isAggD ti.d) ((takeC ti.n (dropC off row)).map (peekA n)),[],[]⟩ :=
 Good.value fun cx st a w pl Z R ht hro=>by
  obtain ⟨h1,h2⟩:=he cx st a w pl Z R ht;have hob:=(RdO.cons.1 hro).1;have h3:=h1 _ hob;have hne:rows≠[]:=by intro e; subst e; simp at hrow
  obtain ⟨g,cap,cur,cells,fs,hh,hg,hcap,hm,hsz,htake,hw,hcl,hfl,hr,hown⟩:=xff R hob hne;have hlen:=xce hl;have hll:=y6.1 hl;have hrl:=xcf hw hrow;have hi:i<rows.length:=(xzm.1 hrow).1;let xs:=((cells.drop (i*P.cellsOf te+off)).take ti.n);have hbd:i*P.cellsOf te+(off+ti.n)<=rows.length*P.cellsOf te:=by
   have:(i+1)*P.cellsOf te<=rows.length*P.cellsOf te:=x0b _ hi;rw [x1g] at this; omega
  have hxl:xs.length=ti.n:=by simp [xs,hcl]; omega
  have hars:Ars P st pl Z w ((takeC ti.n (dropC off row)).map (peekA n)) xs:=by
   refine ⟨by rw [hxl,xzi,hlen],fun k av y hk hy=>?_⟩;simp only [xzr,xz0] at hk;obtain ⟨av,hk,rfl⟩:=hk;obtain ⟨hkn,hk'⟩:=xcd hk;obtain ⟨_,hy'⟩:=zi hy;have hflat:=xgf hw hrow hk';have hidx:i*P.cellsOf te+(off+k)<fs.length:=by rw [hfl,hcl]; exact xsl hi (by have:=(xzm.1 hk').1; omega)
   have hy'':cells[i*P.cellsOf te+(off+k)]?=some y:=by simpa [x1m] using hy'
   refine xu8 (hr _ _ _ _ hflat hy'' (xzh hidx)) fun b hb=>?_;rw [hown];exact xzp _ (yn (xzh hidx) b hb)
  refine ⟨_,?_,xgz hars fun ha=>by rw [xzi,hlen]; exact hT.one ha,?_⟩
  · have:=vu (w:=w) hT g (i*P.cellsOf te+off) xs hxl fun k x hk=>by
     obtain ⟨_,hk'⟩:=zi hk;rw [cell_of_row w _ _ cur te (0,0) hg];rw [<- htake,xz7] at hk'
     split at hk'
     · simpa using hk'
     · cases hk'
    simp [execOp,ho,h3,ptrAt,hh,Value.ownBlock,Instr.loadAt,Instr.sureAddr,this]
  · refine xd4 (xzl.2 fun av hav=>?_);obtain ⟨av,_,rfl⟩:=xzv.1 hav;exact xsh (R.us n _ hob).1
theorem xp8 {t:Nat} {ti:TI} {x:Operand} (ho:o.op=.load t x) (hT:TIok P t ti) {rt:List (Nat × TV)} {ro:List (Nat × Ob)} {ns:List Nat} {row:List AV} {off:Nat} (he:Ev P x rt (.one (.fp ns row off)))
 (hal:∀ st',RdO ro st'->∀ n∈ns,st'.has n) (hl:leLen (off+ti.n) row=true) :
 Good P o uid ⟨rt,ro,mkTV (isAggD ti.d) ((takeC ti.n (dropC off row)).map (peek ns)),[],[]⟩ :=
 Good.value fun cx st a w pl Z R ht hro=>by
  obtain ⟨h1,h2⟩:=he cx st a w pl Z R ht;have h3:Rd P w (Sup pl Z ns) (.fp [] row off) (a.eval x):=h1 (hal st hro);have hlen:=xce hl;have hll:=y6.1 hl;generalize hy:a.eval x=y at h3
  cases h3 with
  | @fp _ _ _ b o' cells hb hn hc hr =>
    let xs:=((cells.drop off).take ti.n);have hxl:xs.length=ti.n:=by simp [xs,hn]; omega
    have hars:Ars P st pl Z w ((takeC ti.n (dropC off row)).map (peek ns)) xs:=by
     refine ⟨by rw [hxl,xzi,hlen],fun k av y hk hy=>?_⟩;simp only [xzr,xz0] at hk;obtain ⟨av,hk,rfl⟩:=hk;obtain ⟨hkn,hk'⟩:=xcd hk;obtain ⟨_,hy'⟩:=zi hy;exact xwz (hr _ _ _ hk' hy')
    refine ⟨_,?_,xgz hars fun ha=>by rw [xzi,hlen]; exact hT.one ha,?_⟩
    · have:=vu (w:=w) hT b (o'+off) xs hxl fun k x hk=>by
       obtain ⟨_,hk'⟩:=zi hk;rw [x1m]; exact hc _ _ hk'
      simp [execOp,ho,hy,Instr.loadAt,Instr.sureAddr,this]
    · refine xd4 (xzl.2 fun av hav=>?_);obtain ⟨av,_,rfl⟩:=xzv.1 hav;simp only [TV.inU,AV.inU,xzl] at h2;exact xu9 h2
theorem xbn {w:World} {S:Nat->Prop} {t:Nat} {rows:List (List AV)} {x:Value} (h:Rd P w S (.sl t rows) x):∃ a cap,x=.slice a rows.length cap/\rows.length<=cap:=by
 cases h with
 | @sl _ _ a len cap cells hmm hl hcap hw hn hb hc hr=>subst hl; exact ⟨a,cap,rfl,hcap⟩
theorem xsm {t:Nat} {x ix:Operand} (ho:o.op=.indexAddr t x ix) {e:Nat} (hu:P.underlying t=some (.slice e)) (hT:∃ ti,TIok P e ti) {rt rt':List (Nat × TV)} {ro:List (Nat × Ob)} {ns:List Nat} {te:Nat} {rows:List (List AV)} {k:IntKind} {i:Int} {row:List AV}
 (hee:te=e) (hx:Ev P x rt (.one (.fr ns te rows))) (hi:Ev P ix rt' (.one (.prim (.int k i)))) (hal:∀ st',RdO ro st'->∀ n∈ns,st'.has n) (h0:0<=i) (hrow:rows[i.toNat]?=some row) :
 Good P o uid ⟨rt++rt',ro,.one (.fp ns row 0),[],[]⟩ :=
 Good.value fun cx st a w pl Z R ht hro=>by
  subst hee;obtain ⟨ht1,ht2⟩:=RdT.append.1 ht;obtain ⟨h1,h2⟩:=hx cx st a w pl Z R ht1;obtain ⟨⟨e1,_⟩,_⟩:=hi cx st a w pl Z R ht2;have h3:Rd P w (Sup pl Z ns) (.sl te rows) (a.eval x):=h1 (hal st hro);obtain ⟨ti,hT⟩:=hT;have hlt:i.toNat<rows.length:=(xzm.1 hrow).1;generalize hy:a.eval x=y at h3
  cases h3 with
  | @sl _ _ ad len cap cells hmm hl hcap hw hn hb hc hr =>
    obtain ⟨b,o',rfl,hS⟩:=hb (by intro e; subst e; simp at hrow);subst hl;have hrl:=xcf hw hrow;let xs:=(cells.drop (i.toNat*P.cellsOf te)).take (P.cellsOf te);have hbd:(i.toNat+1)*P.cellsOf te<=rows.length*P.cellsOf te:=x0b _ hlt;rw [x1g] at hbd;refine ⟨.pointer (some ⟨b,(o'+i.toNat*P.cellsOf te)+0,none⟩),?_,fun _=>.fp (cells:=xs) hS (by simp [xs,hn,hrl]; omega) (fun k x hk=>?_) (fun k av x hk hx=>?_),h2⟩
    · have hsz:=hT.size (P:=P) w;have hcell:=hT.cells;have hin:i<(rows.length:Int):=by omega
      simp [execOp,ho,hy,e1,Instr.indexAt,asIntOf,run_underlying hu,h0,hin,hsz,qb,hcell]
    · obtain ⟨_,hk'⟩:=zi hk;have:=hc b o' _ x rfl hk';rw [<- x1m] at this; exact this
    · obtain ⟨hkn,hx'⟩:=zi hx;exact hr _ av x (xgf hw hrow hk) hx'
theorem xsn {t:Nat} {x ix:Operand} (ho:o.op=.indexAddr t x ix) {e:Nat} (hu:P.underlying t=some (.slice e)) (hT:∃ ti,TIok P e ti) {rt rt':List (Nat × TV)} {n te:Nat} {rows:List (List AV)} {p:Bool} {k:IntKind} {i:Int}
 (hee:te=e) (hx:Ev P x rt (.one (.ref n))) (hi:Ev P ix rt' (.one (.prim (.int k i)))) (h0:0<=i) (hlt:i<rows.length) :
 Good P o uid ⟨rt++rt',[(n,.arr te rows p)],.one (.ptr n i.toNat 0),[],[]⟩ :=
 Good.value fun cx st a w pl Z R ht hro=>by
  subst hee;obtain ⟨ht1,ht2⟩:=RdT.append.1 ht;obtain ⟨h1,h2⟩:=hx cx st a w pl Z R ht1;obtain ⟨⟨e1,_⟩,_⟩:=hi cx st a w pl Z R ht2;have hob:=(RdO.cons.1 hro).1;have h3:=h1 te rows p hob;obtain ⟨ti,hT⟩:=hT;have hne:rows≠[]:=by intro e; subst e; simp at hlt; omega
  obtain ⟨g,cap,cur,cells,fs,hh,hg,hcap,hm,hsz,htake,hw,hcl,hfl,hr,hown⟩:=xff R hob hne;rw [hh] at h3;have hsz:=hT.size (P:=P) w;have hcell:=hT.cells;refine ⟨.pointer (some (ptrAt P pl (.arr te rows p) n i.toNat 0)),?_,fun ob' hob'=>?_,h2⟩
  · simp [execOp,ho,h3,e1,Instr.indexAt,asIntOf,run_underlying hu,h0,hlt,hsz,qb,hcell,ptrAt,hh,Value.ownBlock]
  · have:ob'=.arr te rows p:=x0f (hob'.symm.trans hob);rw [this]
theorem xp9 {t:Nat} {x ix:Operand} (ho:o.op=.index t x ix) (hu:P.underlying t=some .string) {rt rt':List (Nat × TV)} {s:ByteArray} {k:IntKind} {i:Int} {b:UInt8}
 (hx:Ev P x rt (.one (.prim (.string s)))) (hi:Ev P ix rt' (.one (.prim (.int k i)))) (h0:0<=i) (hb:s[i.toNat]?=some b):Good P o uid ⟨rt++rt',[],.one (.prim (.int .u8 b.toNat)),[],[]⟩ :=
 Good.value fun cx st a w pl Z R ht hro=>by
  obtain ⟨ht1,ht2⟩:=RdT.append.1 ht;obtain ⟨⟨e0,_⟩,_⟩:=hx cx st a w pl Z R ht1;obtain ⟨⟨e1,_⟩,_⟩:=hi cx st a w pl Z R ht2;exact ⟨_,by simp [execOp,ho,e0,e1,Instr.index,asIntOf,run_underlying hu,h0,hb],⟨rfl,rfl⟩,rfl⟩
theorem xqa {s f fo ft n':Nat} {fs:List (Nat × Nat)} {z:List AV} {x:Operand} {ti:TI} (ho:o.op=.field s x f) (hT:TIok P s ⟨.strct fs,n',z⟩) (hf:fieldOf fs f=some (fo,ft)) (hti:TIok P ft ti) {rt:List (Nat × TV)} {cs:List AV}
 (he:Ev P x rt (.agg cs)) (hl:leLen (fo+ti.n) cs=true):Good P o uid ⟨rt,[],mkTV (isAggD ti.d) (takeC ti.n (dropC fo cs)),[],[]⟩ :=
 Good.value fun cx st a w pl Z R ht hro=>by
  obtain ⟨⟨xs,h1,h2⟩,h3⟩:=he cx st a w pl Z R ht;obtain ⟨fields,hu,hfs⟩:=hT.strct;obtain ⟨fd,e1,e2,e3,e4,i,hi⟩:=xbm hfs hf;have e1':fields[f]?=some fd:=by simpa using e1
  have hlen:=xce hl;have hll:=y6.1 hl;let ys:=(xs.drop fo).take ti.n;have hyl:ys.length=ti.n:=by have:=h2.1; simp [ys]; omega
  have hars:Ars P st pl Z w (takeC ti.n (dropC fo cs)) ys:=by
   refine ⟨by rw [hyl,hlen],fun k av y hk hy=>?_⟩;exact h2.2 _ _ _ (xcd hk).2 (zi hy).2
  refine ⟨_,?_,xgz hars fun ha=>by rw [hlen]; exact hti.one ha,?_⟩
  · simp only [execOp,ho,h1,Instr.field,Sem.run_bind,run_underlying hu,Result.andThen_ok,e1',asAgg,Sem.run_pure,part,e3,e2,hti.agg];cases ha:isAggD ti.d
    · have hone:=hti.one ha;rw [hone] at hyl;have:fo<xs.length:=by have:=h2.1; omega
      have hy0:ys[0]?=some xs[fo]:=by
       simp only [ys,hone];rw [xz7];simp [xzh this]
      simp [xzh this,hy0]
    · simp only [if_true,Sem.run_bind,hti.size,Result.andThen_ok,x1i];simp [ys]
  · refine xd4 (xzl.2 fun av hav=>?_);rw [yb,yc] at hav;simp only [TV.inU,xzl] at h3;exact h3 av (x1n (x0u hav))
theorem jk {a:Act} {w:World} {c:Call} {b:Builtin} (ho:o.op=.call c) (hc:c.callee=.builtin b) {v:Value} {w':World}
 (h:(builtin b c.argTypes o.type (c.args.map fun|.const _=>true|_=>false) (c.args.map a.eval)).run P w=.ok (.value v) w'):(execOp a.eval o).run P w=.ok (.value v) w':=by
 simp only [execOp,ho,resolve,hc,Sem.run_bind,Sem.run_pure,Result.andThen_ok,invoke];exact h
end
end Go.AM
end
section
namespace Go.AM
open Go
structure Plc where
 n:Nat
 o:Ob
 h:Value
 ad:Nat × Nat
 f:List Nat
def over (pl:Pl) (ps:List Plc):Pl :=
 {
  hdr:=fun n=>match ps.find? (fun p=>p.n == n) with|some p=>p.h|none=>pl.hdr n,
  adr:=fun n=>match ps.find? (fun p=>p.n == n) with|some p=>p.ad|none=>pl.adr n,
  own:=fun n=>match ps.find? (fun p=>p.n == n) with|some p=>p.f|none=>pl.own n }
theorem j0 {ps:List Plc} (h:uniqN (ps.map (·.n))=true) {p:Plc} (hp:p∈ps):ps.find? (fun q=>q.n == p.n)=some p:=by
 induction ps with
 | nil=>cases hp
 | cons q r ih =>
   simp only [x0d,uniqN] at h;cases hm:memN q.n (r.map (·.n))<;>rw [hm] at h
   · rcases xzn.1 hp with rfl|hp
     · simp
     · have hne:q.n≠p.n:=fun e=>yr.1 hm (by rw [e]; exact xzv.2 ⟨p,hp,rfl⟩);rw [List.find?_cons];have:(q.n == p.n)=false:=by simp [hne]
       rw [this];exact ih h hp
   · cases h
theorem xso {ps:List Plc} {n:Nat} (h:n ∉ ps.map (·.n)):ps.find? (fun q=>q.n == n)=none:=by
 rw [List.find?_eq_none];intro p hp hh;exact h (xzv.2 ⟨p,hp,by simpa using hh⟩)
theorem yd (ps:List Plc):names (ps.map fun p=>(p.n,p.o))=ps.map (·.n):=by simp [names]
theorem y7 {st:St} {uid:Nat} {pk:Pk} (h:okPk st uid pk=true):uniqN (names pk.put)=true:=by
 unfold okPk at h
 split at h
 · rename_i h1 h2; rw [h1]; rfl
 · simp only [xzj] at h; exact h.1.1.1
theorem js {ps:List Plc} (h:uniqN (ps.map (·.n))=true) {n:Nat} {o:Ob} (hl:lk (ps.map fun p=>(p.n,p.o)) n=some o):∃ p∈ps,p.n=n/\p.o=o:=by
 obtain ⟨p,hp,e⟩:=xzv.1 (ym hl);simp at e;exact ⟨p,hp,e.1,e.2⟩
section
variable {P:Program} {cx:Cx} {st:St} {a:Act} {w:World} {pl:Pl} {Z:Nat->Prop}
theorem xx {ps:List Plc} (h:uniqN (ps.map (·.n))=true) {p:Plc} (hp:p∈ps):(over pl ps).hdr p.n=p.h/\(over pl ps).adr p.n=p.ad/\(over pl ps).own p.n=p.f:=by
 simp only [over,j0 h hp]; exact ⟨trivial,trivial,trivial⟩
theorem xc1 {ps:List Plc} {n:Nat} (h:n ∉ ps.map (·.n)):(over pl ps).hdr n=pl.hdr n/\(over pl ps).adr n=pl.adr n/\(over pl ps).own n=pl.own n:=by
 simp only [over,xso h]; exact ⟨trivial,trivial,trivial⟩
theorem Step.of (R:Rel P cx st a w pl Z) {dst:Option Nat} {uid:Nat} {pk:Pk} (hok:okPk st uid pk=true) (ps:List Plc) (hput:pk.put=ps.map fun p=>(p.n,p.o))
 {x:Value} {w':World} {Z':Nat->Prop} (chg:Chg w w' (Wr st pl pk)) (fr:Frm cx.w0 w' cx.own0 cx.io)
 (old:∀ p∈ps,∀ o,lk st.s p.n=some o->o.like p.o/\p.h=pl.hdr p.n/\p.ad=pl.adr p.n)
 (zz:∀ b,Z b->Z' b) (zn:∀ b,Z' b->Z b\/((Wr st pl pk b\/w.heap.size<=b)/\b<w'.heap.size/\cx.mayZ b))
 (put:∀ p∈ps,ObR P (apply st dst uid pk) (over pl ps) Z' w' p.n p.o/\p.f.Nodup/\p.o.inU (uid::st.u)=true/\∀ b∈p.f,b<w'.heap.size/\¬ Z' b/\(w.heap.size<=b\/Wr st pl pk b))
 (dj:∀ p∈ps,∀ q∈ps,p.n≠q.n->∀ b∈p.f,b ∉ q.f)
 (val:∀ d,dst=some d->Tr P (apply st dst uid pk) (over pl ps) Z' w' pk.val x/\pk.val.inU (uid::st.u)=true)
 (io:∀ i,cx.io=some i->∀ p∈ps,∀ row,p.o=.box row->p.ad.1=i.b->p.ad.2=i.o/\row.map (fun a=>!a.isNa)=i.m)
 (ioa:∀ i,cx.io=some i->∀ p∈ps,(∃ t rows q,p.o=.arr t rows q)->i.b ∉ p.f) :
 Step P cx st w pl Z dst uid pk x w' (over pl ps) Z':=by
 have hu:uniqN (ps.map (·.n))=true:=by have:=y7 hok; rw [hput,yd] at this; exact this
 have hn:names pk.put=ps.map (·.n):=by rw [hput,yd]
 constructor
 case chg=>exact chg
 case fr=>exact fr
 case pls=>intro n hn'; rw [hn] at hn'; exact xc1 hn'
 case old =>
  intro n o o' ho ho';rw [hput] at ho';obtain ⟨p,hp,rfl,rfl⟩:=js hu ho';obtain ⟨h1,h2,h3⟩:=old p hp o ho;obtain ⟨e1,e2,e3⟩:=xx (pl:=pl) hu hp;exact ⟨h1,by rw [e1,h2],by rw [e2,h3]⟩
 case zz=>exact zz
 case zn=>exact zn
 case put =>
  intro n o' ho';rw [hput] at ho';obtain ⟨p,hp,rfl,rfl⟩:=js hu ho';obtain ⟨h1,h2,h3,h4⟩:=put p hp;obtain ⟨e1,e2,e3⟩:=xx (pl:=pl) hu hp;exact ⟨h1,by rw [e3]; exact h2,h3,by rw [e3]; exact h4⟩
 case dj =>
  intro n m hn1 hm1 hne;rw [hn] at hn1 hm1;obtain ⟨p,hp,rfl⟩:=xzv.1 hn1;obtain ⟨q,hq,rfl⟩:=xzv.1 hm1;rw [(xx (pl:=pl) hu hp).2.2,(xx (pl:=pl) hu hq).2.2];exact dj p hp q hq hne
 case val=>exact val
 case io =>
  intro i hi n row hr had;rw [hput] at hr;obtain ⟨p,hp,rfl,ho⟩:=js hu hr;rw [(xx (pl:=pl) hu hp).2.1] at had ⊢;exact io i hi p hp row ho had
 case ioa =>
  intro i hi n t rows p hr;rw [hput] at hr;obtain ⟨q,hq,rfl,ho⟩:=js hu hr;rw [(xx (pl:=pl) hu hq).2.2];exact ioa i hi q hq ⟨t,rows,p,ho⟩
theorem wh {dst:Option Nat} {uid:Nat} {pk:Pk} {ps:List Plc} (hput:pk.put=ps.map fun p=>(p.n,p.o)) (hu:uniqN (ps.map (·.n))=true) {p:Plc} (hp:p∈ps):lk (apply st dst uid pk).s p.n=some p.o:=by
 rw [vd,hput];have hm:p.n∈names (ps.map fun p=>(p.n,p.o)):=by rw [yd]; exact xzv.2 ⟨p,hp,rfl⟩
 obtain ⟨o,ho⟩:=x0n.1 (x8.2 hm);obtain ⟨q,hq,e1,e2⟩:=js hu ho;have:q=p:=by
  have h1:=j0 hu hq;have h2:=j0 hu hp;rw [e1] at h1; rw [h1] at h2; exact x0f h2
 subst this;rw [ho,e2]
theorem stays (R:Rel P cx st a w pl Z) {dst:Option Nat} {uid:Nat} {pk:Pk} (hok:okPk st uid pk=true) {ps:List Plc} (hput:pk.put=ps.map fun p=>(p.n,p.o)) {w':World} {Z':Nat->Prop}
 (chg:Chg w w' (Wr st pl pk)) (old:∀ p∈ps,∀ o,lk st.s p.n=some o->o.like p.o/\p.h=pl.hdr p.n/\p.ad=pl.adr p.n) (zz:∀ b,Z b->Z' b) :
 Next P st pl Z w (apply st dst uid pk) (over pl ps) Z' w' (olds st pk.put++pk.del):=by
 obtain ⟨hnew,hdel⟩:=xd3 hok;have hu:uniqN (ps.map (·.n))=true:=by have:=y7 hok; rw [hput,yd] at this; exact this
 have hn:names pk.put=ps.map (·.n):=by rw [hput,yd]
 have hzW:∀ b,Z b->¬ Wr st pl pk b:=by
  rintro b hz ⟨n,_,hn,hb⟩;exact (R.lt n hn b hb).2.1 hz
 refine ⟨fun n o' ho' hun=>?_,fun b hz=>⟨zz b hz,chg.blk b (R.zlt b hz).1 (hzW b hz)⟩⟩;rw [vd] at ho'
 cases hp:lk pk.put n with
 | some o'' =>
   rw [hp] at ho';simp at ho';subst ho';have hmem:n∈names pk.put:=x8.1 (by rw [hp]; rfl);have hh:st.has n:=by
    apply x2s;intro hh;obtain ⟨h1,h2⟩:=hnew n hmem hh;rw [h1] at hun; rw [hun] at h2; cases h2
   obtain ⟨o,ho⟩:=x0n.1 hh;rw [hput] at hp;obtain ⟨p,hpp,rfl,rfl⟩:=js hu hp;obtain ⟨h1,h2,h3⟩:=old p hpp o ho;obtain ⟨e1,e2,e3⟩:=xx (pl:=pl) hu hpp;exact ⟨o,ho,h1,by rw [e1,h2],by rw [e2,h3],fun hk=>absurd (xzt _ (vf.2 ⟨hmem,hh⟩)) hk⟩
 | none =>
   rw [hp] at ho';simp only at ho'
   split at ho'
   · cases ho'
   · rename_i hdn;obtain ⟨o,ho,rfl⟩:=xz0.1 ho';have hnp:n ∉ names pk.put:=fun hm=>by have:=x8.2 hm; rw [hp] at this; cases this
     obtain ⟨h1,h2,h3⟩:=xc1 (pl:=pl) (ps:=ps) (n:=n) (by rw [<- hn]; exact hnp);have hh:st.has n:=by unfold St.has St.O; rw [ho]; rfl
     refine ⟨o,ho,by cases o<;>simp [Ob.drop,Ob.like],h1,h2,fun _=>⟨h3,fun b hb=>chg.blk b (R.lt n hh b hb).1 ?_⟩⟩;rintro ⟨m,hm,hm',hbm⟩;refine R.dj n m hh hm' (fun e=>?_) b hb hbm;subst e;exact hm.elim hnp hdn
end
def nilP (p:Nat × Ob):Plc:=⟨p.1,p.2,.slice none 0 0,(0,0),[]⟩
theorem wj:∀ {n:Nat} {cs:List AV} {p:Nat × Ob},p∈(embox n cs).2->n<=p.1/\∃ t,p.2=.arr t [] false/\AV.emp t∈cs
 | n,[],p,h=>by simp [embox] at h
 | n,c::r,p,h=>by
   have ih:=@wj (n+1) r p;cases c<;>simp only [embox] at h
   case emp t =>
    rcases xzn.1 h with rfl|h
    · exact ⟨x0r _,t,rfl,by simp⟩
    · obtain ⟨h1,t,h2,h3⟩:=ih h; exact ⟨by omega,t,h2,xzp _ h3⟩
   all_goals (obtain ⟨h1,t,h2,h3⟩:=ih h; exact ⟨by omega,t,h2,xzp _ h3⟩)
theorem xd5:∀ {n:Nat} {cs:List AV},(embox n cs).1.length=cs.length
 | n,[]=>rfl
 | n,c::r=>by cases c<;>simp [embox,xd5 (n:=n+1) (cs:=r)]
theorem wn:∀ {n:Nat} {cs:List AV} {k:Nat} {av':AV},(embox n cs).1[k]?=some av' ->
 (cs[k]?=some av'/\∀ t,av'≠.emp t)\/∃ t,cs[k]?=some (.emp t)/\av'=.ref (n+k)/\(n+k,Ob.arr t [] false)∈(embox n cs).2
 | n,[],k,av',h=>by simp [embox] at h
 | n,c::r,0,av',h=>by
   cases c<;>simp [embox] at h<;>subst h
   case emp t=>exact .inr ⟨t,rfl,rfl,by simp [embox]⟩
   all_goals exact .inl ⟨rfl,fun t h=>by cases h⟩
 | n,c::r,k+1,av',h=>by
   have ih:=@wn (n+1) r k av' (by cases c<;>simpa [embox] using h);rcases ih with h'|⟨t,h1,h2,h3⟩
   · exact .inl (by simpa using h')
   · refine .inr ⟨t,by simpa using h1,by rw [h2]; congr 1; omega,?_⟩;rw [show n+(k+1)=n+1+k by omega];cases c<;>simp [embox,h3]
theorem xi6 {P:Program} {st':St} {pl':Pl} {Z':Nat->Prop} {w':World} {n:Nat} {cs:List AV} {xs:List Value} (h:Ars P st' pl' Z' w' cs xs)
 (hh:∀ p∈(embox n cs).2,pl'.hdr p.1=.slice none 0 0):Ars P st' pl' Z' w' (embox n cs).1 xs:=by
 refine ⟨by rw [xd5]; exact h.1,fun k av y hk hy=>?_⟩;rcases wn hk with ⟨h1,_⟩|⟨t,h1,rfl,h3⟩
 · exact h.2 k av y h1 hy
 · have h4:y=.slice none 0 0:=h.2 k _ y h1 hy;intro t' rows p ho;rw [h4]; exact (hh _ h3).symm
theorem xi7 {u:List Nat} {n:Nat} {cs:List AV} (h:cs.all (AV.inU u)=true) (hn:∀ p∈(embox n cs).2,memN (p.1 / 64) u=true):(embox n cs).1.all (AV.inU u)=true:=by
 refine xzl.2 fun av hav=>?_;obtain ⟨k,hk,rfl⟩:=x0h.1 hav;rcases wn (xzh hk) with ⟨h1,_⟩|⟨t,h1,h2,h3⟩
 · exact xzl.1 h _ (xzy h1)
 · rw [h2]; exact hn _ h3
end Go.AM
end
section
namespace Go.AM
open Go
theorem vv {uid n:Nat} {u:List Nat} (h:n / 64=uid):memN (n / 64) (uid::u)=true:=jj.2 (by simp [h])
section
variable {P:Program} {cx:Cx} {st:St} {a:Act} {w:World} {pl:Pl} {Z:Nat->Prop}
theorem Rel.frm (R:Rel P cx st a w pl Z) {w':World} {W:Nat->Prop} (chg:Chg w w' W) (hW:∀ b,W b->∃ n t rows p,lk st.s n=some (.arr t rows p)/\b∈pl.own n):Frm cx.w0 w' cx.own0 cx.io:=by
 have hio:∀ i,cx.io=some i->¬ W i.b:=by
  rintro i hi hWb;obtain ⟨n,t,rows,p,h1,h2⟩:=hW _ hWb;exact R.ioa i hi n t rows p h1 h2
 refine ⟨chg.os.trans R.fr.os,chg.tape.trans R.fr.tape,chg.output.trans R.fr.output,x1r R.fr.size chg.size,fun k hk h1 h2=>?_,fun i hi=>?_⟩
 · rw [chg.blk k (x1c hk R.fr.size) ?_]
   · exact R.fr.blk k hk h1 h2
   · intro hWk;obtain ⟨n,t,rows,p,h3,h4⟩:=hW _ hWk;rcases (R.lt n (by unfold St.has St.O; rw [h3]; rfl) k h4).2.2 with h|⟨i,hi,rfl⟩|h
     · exact h1 h
     · exact h2 i hi rfl
     · omega
 · obtain ⟨c,c',ty,e1,e2,e3,e4⟩:=R.fr.iob i hi;exact ⟨c,c',ty,e1,by rw [chg.blk i.b (x0t.1 e2).1 (hio i hi)]; exact e2,e3,e4⟩
theorem Chg.alloc (w:World) (o:Obj) (W:Nat->Prop):Chg w (w.alloc o) W:=⟨rfl,rfl,rfl,by simp,fun k hk _=>by first|exact heap_alloc_old w o k hk|exact heap_alloc_old w o hk⟩
theorem Chg.refl (w:World) (W:Nat->Prop):Chg w w W:=⟨rfl,rfl,rfl,x0r _,fun k _ _=>rfl⟩
theorem xg0 {n0:Nat} {cs:List AV}:((embox n0 cs).2.map nilP).map (fun p=>(p.n,p.o))=(embox n0 cs).2:=by
 rw [x2k]
 conv=>rhs; rw [<- x21 (embox n0 cs).2]
 exact x06 fun p _=>rfl
theorem xsp {st':St} {pl':Pl} {Z':Nat->Prop} {w':World} {n0:Nat} {cs:List AV} {q:Plc} (hq:q∈(embox n0 cs).2.map nilP) (hh:pl'.hdr q.n=q.h) (ho:pl'.own q.n=q.f):ObR P st' pl' Z' w' q.n q.o/\q.f=[]/\q.h=.slice none 0 0/\∃ t,q.o=.arr t [] false:=by
 obtain ⟨p,hp,rfl⟩:=xzv.1 hq;obtain ⟨_,t,h2,_⟩:=wj hp;refine ⟨?_,rfl,rfl,t,h2⟩;simp only [nilP] at hh ho ⊢;rw [h2];show Ow P w' Z' (.sl t []) (pl'.hdr p.1) (pl'.own p.1);rw [hh,ho];exact Ow.sl (fs:=[]) (cells:=[]) (by simp) (fun row h=>by cases h) (World.ownsRow_nil _ _ _ _) rfl (fun k av x f h=>by simp at h)
theorem kk {st:St} {uid:Nat} {pk:Pk} (hok:okPk st uid pk=true) (h:pk.put≠[]):memN uid st.u=false:=by
 unfold okPk at hok
 split at hok
 · rename_i h1 h2; exact absurd h1 h
 · simp only [xzj,x05] at hok;exact hok.1.1.2
theorem kl (R:Rel P cx st a w pl Z) {uid n:Nat} (hu:memN uid st.u=false) (hn:n / 64=uid):lk st.s n=none:=by
 cases hl:lk st.s n with
 | none=>rfl
 | some o=>have:=(R.us n o hl).1; rw [hn,hu] at this; cases this
theorem xg1 {uid:Nat} {cs:List AV} (hb:cs.length<=30) {p:Nat × Ob} (hp:p∈(embox (uid*64+1) cs).2):p.1 / 64=uid:=by
 have key:∀ {n:Nat} {cs:List AV} {p:Nat × Ob},p∈(embox n cs).2->p.1<n+cs.length:=by
  intro n cs
  induction cs generalizing n with
  | nil=>intro p h; simp [embox] at h
  | cons c r ih =>
    intro p h;cases c<;>simp only [embox] at h
    case emp t =>
     rcases xzn.1 h with rfl|h
     · simp
     · have:=ih h; simp; omega
    all_goals (have:=ih h; simp; omega)
 have h1:=key hp;have h2:=(wj hp).1;omega
theorem newbox (R:Rel P cx st a w pl Z) {dst:Option Nat} {uid:Nat} {rt:List (Nat × TV)} {ro:List (Nat × Ob)} {cs:List AV} {xs:List Value} {e:Nat} (hb:cs.length<=30)
 (hok:okPk st uid ⟨rt,ro,.one (.ptr (uid*64) 0 0),(uid*64,.box (embox (uid*64+1) cs).1)::(embox (uid*64+1) cs).2,[]⟩=true)
 (h:Ars P st pl Z w cs xs) (hu:cs.all (AV.inU st.u)=true) :
 ∃ pl',Step P cx st w pl Z dst uid ⟨rt,ro,.one (.ptr (uid*64) 0 0),(uid*64,.box (embox (uid*64+1) cs).1)::(embox (uid*64+1) cs).2,[]⟩ (.pointer (some ⟨w.heap.size,0,none⟩)) (w.alloc (.cells xs.toArray e)) pl' Z:=by
 let ps:List Plc:=⟨uid*64,.box (embox (uid*64+1) cs).1,undef,(w.heap.size,0),[w.heap.size]⟩::(embox (uid*64+1) cs).2.map nilP;let pk:Pk:=⟨rt,ro,.one (.ptr (uid*64) 0 0),(uid*64,.box (embox (uid*64+1) cs).1)::(embox (uid*64+1) cs).2,[]⟩;have hput:pk.put=ps.map fun p=>(p.n,p.o):=by simp only [pk,ps,x0d,xg0]
 have hn:names pk.put=ps.map (·.n):=by rw [hput,yd]
 have hu':uniqN (ps.map (·.n))=true:=by have:=y7 hok; rw [<- hn]; exact this
 have hfr:=kk hok (by simp);have hnew:∀ p∈ps,lk st.s p.n=none/\p.n / 64=uid:=by
  intro p hp;have hd:p.n / 64=uid:=by
   rcases xzn.1 hp with rfl|hp
   · show uid*64 / 64=uid; omega
   · obtain ⟨q,hq,rfl⟩:=xzv.1 hp; exact xg1 hb hq
  exact ⟨kl R hfr hd,hd⟩
 have hw:∀ b,¬ Wr st pl pk b:=by
  rintro b ⟨n,hm,hh,_⟩;rcases hm with hm|hm
  · rw [hn] at hm;obtain ⟨p,hp,rfl⟩:=xzv.1 hm;unfold St.has St.O at hh; rw [(hnew p hp).1] at hh; cases hh
  · cases hm
 have chg:Chg w (w.alloc (.cells xs.toArray e)) (Wr st pl pk):=Chg.alloc _ _ _;have old:∀ p∈ps,∀ o,lk st.s p.n=some o->o.like p.o/\p.h=pl.hdr p.n/\p.ad=pl.adr p.n:=fun p hp o ho=>by rw [(hnew p hp).1] at ho; cases ho
 have N:=stays R (dst:=dst) hok hput chg old fun _ h=>h;have hol:olds st pk.put++pk.del=[]:=by
  rw [List.append_eq_nil_iff];refine ⟨List.eq_nil_iff_forall_not_mem.2 fun n hm=>?_,rfl⟩;obtain ⟨h1,h2⟩:=vf.1 hm;rw [hn] at h1;obtain ⟨p,hp,rfl⟩:=xzv.1 h1;unfold St.has St.O at h2; rw [(hnew p hp).1] at h2; cases h2
 rw [hol] at N;have hars:=Ars.drop N hu h;rw [kj] at hars;have hhd:∀ p∈(embox (uid*64+1) cs).2,(over pl ps).hdr p.1=.slice none 0 0:=fun p hp=>(xx (pl:=pl) hu' (p:=nilP p) (xzp _ (xzv.2 ⟨p,hp,rfl⟩))).1;have hars':=xi6 (n:=uid*64+1) hars hhd;have hinU:(embox (uid*64+1) cs).1.all (AV.inU (uid::st.u))=true:=by
  refine xi7 (xzl.2 fun a ha=>AV.inU_mono (fun _ h=>qh h) (xzl.1 hu a ha)) fun p hp=>?_;exact vv (hnew (nilP p) (xzp _ (xzv.2 ⟨p,hp,rfl⟩))).2
 have hlenx:xs.length=(embox (uid*64+1) cs).1.length:=hars'.1;refine ⟨over pl ps,Step.of R hok ps hput chg (R.frm chg fun b hb=>absurd hb (hw b)) old (fun _ h=>h) (fun _ h=>.inl h) ?_ ?_ ?_ ?_ ?_⟩
 · intro p hp;rcases xzn.1 hp with rfl|hp'
   · refine ⟨⟨?_,xs.toArray,e,?_,?_,?_⟩,by simp,hinU,fun b hb=>?_⟩
     · rw [(xx (pl:=pl) hu' hp).2.2,(xx (pl:=pl) hu' hp).2.1]
     · rw [(xx (pl:=pl) hu' hp).2.1]; exact heap_alloc_new w _
     · rw [(xx (pl:=pl) hu' hp).2.1]; simp [hlenx]
     · intro k av y hk hy;rw [(xx (pl:=pl) hu' hp).2.1] at hy;exact hars'.2 k av y hk (by simpa using hy)
     · simp at hb;subst hb;exact ⟨by simp,fun hz=>by have:=(R.zlt _ hz).1; omega,.inl (x0r _)⟩
   · obtain ⟨e1,e2,e3⟩:=xx (pl:=pl) hu' hp;obtain ⟨h1,h2,h3,t,h4⟩:=xsp (P:=P) (st':=apply st dst uid pk) (Z':=Z) (w':=w.alloc (.cells xs.toArray e)) hp' e1 e3;refine ⟨h1,by rw [h2]; exact x09,by rw [h4]; rfl,fun b hb=>by rw [h2] at hb; cases hb⟩
 · intro p hp q hq hne b hb;rcases xzn.1 hq with rfl|hq'
   · rcases xzn.1 hp with rfl|hp'
     · exact absurd rfl hne
     · obtain ⟨p',_,rfl⟩:=xzv.1 hp'; cases hb
   · obtain ⟨q',_,rfl⟩:=xzv.1 hq'; exact x0o
 · intro d hd;refine ⟨fun o ho=>?_,vv (hnew _ (xz5 ..)).2⟩;have h1:=wh (st:=st) (dst:=dst) (uid:=uid) hput hu' (xz5 ..);have:o=.box (embox (uid*64+1) cs).1:=x0f (ho.symm.trans h1);subst this;simp only [ptrAt];rw [(xx (pl:=pl) hu' (xz5 ..)).2.1]
 · intro i hi p hp row hr had;rcases xzn.1 hp with rfl|hp'
   · obtain ⟨c,c',ty,e1,e2,e3,e4⟩:=R.fr.iob i hi;have:=(x0t.1 e2).1;simp only at had;omega
   · obtain ⟨p',hp'',rfl⟩:=xzv.1 hp';obtain ⟨_,t,h2,_⟩:=wj hp'';simp only [nilP] at hr; rw [h2] at hr; cases hr
 · intro i hi p hp ⟨t,rows,q,hq⟩;rcases xzn.1 hp with rfl|hp'
   · cases hq
   · obtain ⟨p',_,rfl⟩:=xzv.1 hp'; exact x0o
end
theorem xae {st:St}:∀ {cs:List AV} {k:List (Nat × Ob)->Prop},liveC st cs k->∃ ro,k ro/\RdO ro st /\
 ∀ (P:Program) (cx:Cx) (st':St) (a:Act) (w:World) (pl:Pl) (Z:Nat->Prop),Rel P cx st' a w pl Z->RdO ro st'->∀ av∈cs,∀ x,Ar P st' pl Z w av x->x.oneCell'=true
 | [],k,h=>⟨[],h,RdO.nil,fun _ _ _ _ _ _ _ _ _ av hav=>by cases hav⟩
 | c::r,k,h=>by
   have tl:∀ {k':List (Nat × Ob)->Prop} (f:List (Nat × Ob)->List (Nat × Ob)) (hf:∀ ro st',RdO (f ro) st'->RdO ro st') (hk:∀ ro,k' ro->k (f ro)),liveC st r k'->(∀ ro,RdO ro st->RdO (f ro) st) ->
    (∀ ro (P:Program) (cx:Cx) (st':St) (a:Act) (w:World) (pl:Pl) (Z:Nat->Prop),Rel P cx st' a w pl Z->RdO (f ro) st'->∀ x,Ar P st' pl Z w c x->x.oneCell'=true) ->
    ∃ ro,k ro/\RdO ro st/\∀ (P:Program) (cx:Cx) (st':St) (a:Act) (w:World) (pl:Pl) (Z:Nat->Prop),Rel P cx st' a w pl Z->RdO ro st'->∀ av∈c::r,∀ x,Ar P st' pl Z w av x->x.oneCell'=true:=by
    intro k' f hf hk h hst hc;obtain ⟨ro,h1,h2,h3⟩:=xae h;refine ⟨f ro,hk ro h1,hst ro h2,fun P cx st' a w pl Z R hr av hav x hx=>?_⟩;rcases xzn.1 hav with rfl|hav
    · exact hc ro P cx st' a w pl Z R hr x hx
    · exact h3 P cx st' a w pl Z R (hf ro st' hr) av hav x hx
   cases c with
   | prim v=>exact tl id (fun _ _ h=>h) (fun _ h=>h) h (fun _ h=>h) fun ro P cx st' a w pl Z R hr x hx=>by obtain ⟨rfl,h⟩:=hx; exact h
   | emp t=>exact tl id (fun _ _ h=>h) (fun _ h=>h) h (fun _ h=>h) fun ro P cx st' a w pl Z R hr x hx=>by rw [show x=.slice none 0 0 from hx]; rfl
   | fn f caps=>exact tl id (fun _ _ h=>h) (fun _ h=>h) h (fun _ h=>h) fun ro P cx st' a w pl Z R hr x hx=>by obtain ⟨arr,rfl,_⟩:=hx; rfl
   | fr ns t rows =>
     obtain ⟨ro0,h,h0,hal⟩:=yi h;refine tl (fun ro=>ro0++ro) (fun _ _ h=>(RdO.append.1 h).2) (fun _ h=>h) h (fun _ h=>RdO.append.2 ⟨h0,h⟩) fun ro P cx st' a w pl Z R hr x hx=>?_;have h':Rd P w (Sup pl Z ns) (.sl t rows) x:=hx (hal st' (RdO.append.1 hr).1);exact h'.oneCell
   | fp ns row off =>
     obtain ⟨ro0,h,h0,hal⟩:=yi h;refine tl (fun ro=>ro0++ro) (fun _ _ h=>(RdO.append.1 h).2) (fun _ h=>h) h (fun _ h=>RdO.append.2 ⟨h0,h⟩) fun ro P cx st' a w pl Z R hr x hx=>?_;have h':Rd P w (Sup pl Z ns) (.fp [] row off) x:=hx (hal st' (RdO.append.1 hr).1);exact h'.oneCell
   | ptr n i off =>
     obtain ⟨ro0,h,h0,hal⟩:=yi h;refine tl (fun ro=>ro0++ro) (fun _ _ h=>(RdO.append.1 h).2) (fun _ h=>h) h (fun _ h=>RdO.append.2 ⟨h0,h⟩) fun ro P cx st' a w pl Z R hr x hx=>?_;obtain ⟨o,ho⟩:=x0n.1 (hal st' (RdO.append.1 hr).1 n (by simp));rw [hx o ho]; rfl
   | ref n =>
     simp only [liveC] at h
     split at h
     · rename_i t rows p ho;refine tl (fun ro=>(n,.arr t rows p)::ro) (fun _ _ h=>(RdO.cons.1 h).2) (fun _ h=>h) h (fun _ h=>RdO.cons.2 ⟨ho,h⟩) fun ro P cx st' a w pl Z R hr x hx=>?_;have ho':=(RdO.cons.1 hr).1;rw [hx t rows p ho'];have:Ow P w Z (.sl t rows) (pl.hdr n) (pl.own n):=R.obj n _ ho';exact this.oneCell
     · exact h.elim
   | undef=>exact h.elim
   | na=>exact h.elim
   | sl t rows=>exact h.elim
section
variable {P:Program} {o:Oper} {uid:Nat}
theorem xqb {e:Nat} {ti:TI} (ho:o.op=.alloc e) (hT:TIok P e ti):Good P o uid ⟨[],[],.one (.ptr (uid*64) 0 0),(uid*64,.box (embox (uid*64+1) ti.z).1)::(embox (uid*64+1) ti.z).2,[]⟩:=by
 intro cx st a w pl Z R ht hro hok K Q hK;obtain ⟨i,z,h1,h2,h3,h4,h5⟩:=hT.zlen;obtain ⟨ha,hu⟩:=xbl (P:=P) (st:=st) (pl:=pl) (Z:=Z) (w:=w) h3;have hlen:ti.z.length<=30:=by rw [hT.zl]; exact hT.small
 obtain ⟨pl',S⟩:=newbox R (dst:=o.dst) (e:=e) hlen hok ha (hu st.u);have hrun:(execOp a.eval o).run P w=.ok (.value (.pointer (some ⟨w.heap.size,0,none⟩))) (w.alloc (.cells z.cells.toList.toArray e)):=by
  simp [execOp,ho,Instr.alloc,zeroValue,typeInfo,h1,h2,newVar,newRow]
 unfold Oper.wp;rw [hrun];exact hK _ _ _ _ S
theorem xvc {e:Nat} {ti:TI} {x:Operand} (ho:o.op=.box e x) (hT:TIok P e ti) {rt:List (Nat × TV)} {ro:List (Nat × Ob)} {v:TV} (he:Ev P x rt v) (hv:∀ vs,v≠.tup vs) (hl:lenIs (tvCells v) ti.n=true)
 (hlive:∀ (cx:Cx) (st':St) (a:Act) (w:World) (pl:Pl) (Z:Nat->Prop),Rel P cx st' a w pl Z->RdO ro st'->∀ av∈tvCells v,∀ x,Ar P st' pl Z w av x->x.oneCell'=true) :
 Good P o uid ⟨rt,ro,.one (.ptr (uid*64) 0 0),(uid*64,.box (embox (uid*64+1) (tvCells v)).1)::(embox (uid*64+1) (tvCells v)).2,[]⟩:=by
 intro cx st a w pl Z R ht hro hok K Q hK;obtain ⟨h1,h2⟩:=he cx st a w pl Z R ht;have hc:Ars P st pl Z w (tvCells v) (a.eval x).cells.toList:=by
  cases v with
  | one v =>
    have h3:=hlive cx st a w pl Z R hro v (by simp [tvCells]) _ h1
    have hc:(a.eval x).cells.toList=[a.eval x]:=by generalize a.eval x=y at h3; cases y<;>first|rfl|cases h3
    rw [hc];refine ⟨rfl,fun k av y hk hy=>?_⟩
    cases k with
    | zero=>simp [tvCells] at hk hy; subst hk; subst hy; exact h1
    | succ k=>simp [tvCells] at hk
  | agg cs=>obtain ⟨xs,e1,h3⟩:=h1; rw [e1]; exact h3
  | tup vs=>exact absurd rfl (hv vs)
 have hinU:(tvCells v).all (AV.inU st.u)=true:=by
  cases v with
  | one v=>simpa [tvCells,TV.inU] using h2
  | agg cs=>exact h2
  | tup vs=>rfl
 obtain ⟨pl',S⟩:=newbox R (dst:=o.dst) (e:=e) (by rw [zu.1 hl]; exact hT.small) hok hc hinU;have hrun:(execOp a.eval o).run P w=.ok (.value (.pointer (some ⟨w.heap.size,0,none⟩))) (w.alloc (.cells (a.eval x).cells.toList.toArray e)):=by
  simp [execOp,ho,Instr.box,newVar,newRow]
 unfold Oper.wp;rw [hrun];exact hK _ _ _ _ S
end
end Go.AM
end
section
namespace Go.AM
open Go
section
variable {P:Program} {cx:Cx} {st:St} {a:Act} {w:World} {pl:Pl} {Z:Nat->Prop}
theorem qq (R:Rel P cx st a w pl Z):∀ {ms:List Nat},ms.Nodup->(∀ m∈ms,st.has m)->(ms.flatMap pl.own).Nodup
 | [],_,_=>by simp
 | m::r,h,hh=>by
   rw [x1o];obtain ⟨h1,h2⟩:=x0x.1 h;refine x0j.2 ⟨R.nd m (hh m (by simp)),qq R h2 fun x hx=>hh x (by simp [hx]),fun b hb c hc e=>?_⟩;subst e;obtain ⟨q,hq,hbq⟩:=x0i.1 hc;exact R.dj m q (hh m (by simp)) (hh q (by simp [hq])) (fun e=>h1 (by rw [e]; exact hq)) b hb hbq
end
theorem zc {st:St}:∀ {cs:List AV} {del:List Nat} {k:List AV->List (Nat × Ob)->List Nat->Prop},rowCells st cs del k ->
 ∃
  (row:List AV) (ro:List (Nat × Ob)) (ms:List Nat),k row ro (ms.reverse++del)/\RdO ro st/\row.length=cs.length/\ms.Nodup/\(∀ m∈ms,m ∉ del)/\(∀ m∈ms,∃ t rows,lk ro m=some (.arr t rows false)) /\
  ∀
   (P:Program) (cx:Cx) (st':St) (a:Act) (w:World) (pl:Pl) (Z:Nat->Prop),Rel P cx st' a w pl Z->RdO ro st'->∀ xs,Ars P st' pl Z w cs xs ->
   ∃ fs:List (List Nat),fs.length=row.length/\fs.flatten=ms.flatMap pl.own/\∀ (k:Nat) (av:AV) (x:Value) (f:List Nat),row[k]?=some av->xs[k]?=some x->fs[k]?=some f->Ow P w Z av x f
 | [],del,k,h=>⟨[],[],[],h,RdO.nil,rfl,x09,(by simp),(by simp),fun P cx st' a w pl Z R hr xs hx=>⟨[],rfl,rfl,fun k av x f hk=>by simp at hk⟩⟩
 | c::r,del,k,h=>by
   have plain:∀ (c':AV) (k':List AV->List (Nat × Ob)->List Nat->Prop),rowCells st r del k'->(∀ cs ro d,k' cs ro d->k (c'::cs) ro d) ->
    (∀ (P:Program) (st':St) (w:World) (pl:Pl) (Z:Nat->Prop) x,Ar P st' pl Z w c x->Ow P w Z c' x []) ->
    ∃
     (row:List AV) (ro:List (Nat × Ob)) (ms:List Nat),k row ro (ms.reverse++del)/\RdO ro st/\row.length=(c::r).length/\ms.Nodup/\(∀ m∈ms,m ∉ del)/\(∀ m∈ms,∃ t rows,lk ro m=some (.arr t rows false)) /\
     ∀
      (P:Program) (cx:Cx) (st':St) (a:Act) (w:World) (pl:Pl) (Z:Nat->Prop),Rel P cx st' a w pl Z->RdO ro st'->∀ xs,Ars P st' pl Z w (c::r) xs ->
      ∃ fs:List (List Nat),fs.length=row.length/\fs.flatten=ms.flatMap pl.own/\∀ (k:Nat) (av:AV) (x:Value) (f:List Nat),row[k]?=some av->xs[k]?=some x->fs[k]?=some f->Ow P w Z av x f:=by
    intro c' k' h hk hc;obtain ⟨row,ro,ms,h1,h2,h3,h4,h5,h6,h7⟩:=zc h;refine ⟨c'::row,ro,ms,hk _ _ _ h1,h2,by simp [h3],h4,h5,h6,fun P cx st' a w pl Z R hr xs hx=>?_⟩
    match xs,hx with
    | [],hx=>exact absurd hx.1 (by simp)
    | x::xs,hx =>
      obtain ⟨fs,e1,e2,e3⟩:=h7 P cx st' a w pl Z R hr xs ⟨by simpa using hx.1,fun k av y hk hy=>hx.2 (k+1) av y (by simpa using hk) (by simpa using hy)⟩;refine ⟨[]::fs,by simp [e1],by simpa using e2,fun k av y f hk hy hf=>?_⟩
      cases k with
      | zero=>simp at hk hy hf; subst hk; subst hy; subst hf; exact hc P st' w pl Z _ (hx.2 0 c _ rfl rfl)
      | succ k=>exact e3 k av y f (by simpa using hk) (by simpa using hy) (by simpa using hf)
   cases c with
   | prim v=>exact plain (.prim v) _ h (fun _ _ _ h=>h) fun P st' w pl Z x hx=>by obtain ⟨rfl,h⟩:=hx; exact .prim h
   | emp t =>
     refine plain (.sl t []) _ h (fun _ _ _ h=>h) fun P st' w pl Z x hx=>?_;rw [show x=.slice none 0 0 from hx];exact Ow.sl (fs:=[]) (cells:=[]) (by simp) (fun row h=>by cases h) (World.ownsRow_nil _ _ _ _) rfl (fun k av x f h=>by simp at h)
   | fr ns t rows =>
     cases ns with
     | nil=>exact plain (.fr [] t rows) _ h (fun _ _ _ h=>h) fun P st' w pl Z x hx=>.fr0 ((hx (by simp)).mono (fun b hb=>by rcases hb with hb|⟨n,hn,_⟩; exact hb; cases hn) fun _ _=>rfl)
     | cons n ns=>exact h.elim
   | ref m =>
     simp only [rowCells] at h
     split at h
     · rename_i t rows hm hl;obtain ⟨row,ro,ms,h1,h2,h3,h4,h5,h6,h7⟩:=zc h
       refine ⟨.sl t rows::row,(m,.arr t rows false)::ro,m::ms,by simpa using h1,RdO.cons.2 ⟨hl,h2⟩,by simp [h3],
        x0x.2 ⟨fun hmm=>h5 m hmm (by simp),h4⟩,fun q hq=>?_,fun q hq=>?_,fun P cx st' a w pl Z R hr xs hx=>?_⟩
       · rcases xzn.1 hq with rfl|hq
         · exact yr.1 hm
         · exact fun hd=>h5 q hq (by simp [hd])
       · rw [x4];rcases xzn.1 hq with rfl|hq
         · exact ⟨t,rows,if_pos rfl⟩
         · split
           · exact ⟨t,rows,rfl⟩
           · exact h6 q hq
       · match xs,hx with
         | [],hx=>exact absurd hx.1 (by simp)
         | x::xs,hx =>
           obtain ⟨hr1,hr2⟩:=RdO.cons.1 hr;obtain ⟨fs,e1,e2,e3⟩:=h7 P cx st' a w pl Z R hr2 xs ⟨by simpa using hx.1,fun k av y hk hy=>hx.2 (k+1) av y (by simpa using hk) (by simpa using hy)⟩;refine ⟨pl.own m::fs,by simp [e1],by simp [e2],fun k av y f hk hy hf=>?_⟩
           cases k with
           | zero =>
             simp at hk hy hf; subst hk; subst hy; subst hf;rw [show x=pl.hdr m from hx.2 0 _ _ rfl rfl t rows false hr1];exact R.obj m _ hr1
           | succ k=>exact e3 k av y f (by simpa using hk) (by simpa using hy) (by simpa using hf)
     · exact h.elim
   | undef=>exact h.elim
   | na=>exact h.elim
   | sl t rows=>exact h.elim
   | ptr n i off=>exact h.elim
   | fp ns row off=>exact h.elim
   | fn f caps=>exact h.elim
theorem xo6:∀ {cs:List AV},(deE cs).length=cs.length
 | []=>rfl
 | a::r=>by cases a<;>simp [deE,xo6 (cs:=r)]
theorem xo7 {P:Program} {st':St} {pl:Pl} {Z:Nat->Prop} {w:World}:∀ {cs:List AV} {xs:List Value},Ars P st' pl Z w cs xs->Ars P st' pl Z w (deE cs) xs
 | [],xs,h=>h
 | a::r,[],h=>absurd h.1 (by simp)
 | a::r,x::xs,h=>by
   have ih:=xo7 (cs:=r) (xs:=xs) ⟨by simpa using h.1,fun k av y hk hy=>h.2 (k+1) av y (by simpa using hk) (by simpa using hy)⟩;have h0:=h.2 0 a x rfl rfl
   have mk:∀ b:AV,Ar P st' pl Z w b x->Ars P st' pl Z w (b::deE r) (x::xs):=fun b hb=>⟨by simp [ih.1],fun k av y hk hy=>by
    cases k with
    | zero=>simp at hk hy; subst hk; subst hy; exact hb
    | succ k=>exact ih.2 k av y (by simpa using hk) (by simpa using hy)⟩
   cases a with
   | emp t =>
     have h0:x=.slice none 0 0:=h0;subst h0;exact mk (.fr [] t []) fun _=>.sl (cells:=[]) (by simp) rfl (x0r _) (by simp) (by simp) (fun h=>absurd rfl h) (fun b o k x ha=>by cases ha) (by simp)
   | _=>exact mk _ h0
theorem j1 {st:St} {cs:List AV} {del:List Nat} {k:List AV->List (Nat × Ob)->List Nat->Prop} (h:rowCells st (deE cs) del k) :
 ∃
  (row:List AV) (ro:List (Nat × Ob)) (ms:List Nat),k row ro (ms.reverse++del)/\RdO ro st/\row.length=cs.length/\ms.Nodup/\(∀ m∈ms,m ∉ del)/\(∀ m∈ms,∃ t rows,lk ro m=some (.arr t rows false)) /\
  ∀
   (P:Program) (cx:Cx) (st':St) (a:Act) (w:World) (pl:Pl) (Z:Nat->Prop),Rel P cx st' a w pl Z->RdO ro st'->∀ xs,Ars P st' pl Z w cs xs ->
   ∃ fs:List (List Nat),fs.length=row.length/\fs.flatten=ms.flatMap pl.own/\∀ (k:Nat) (av:AV) (x:Value) (f:List Nat),row[k]?=some av->xs[k]?=some x->fs[k]?=some f->Ow P w Z av x f:=by
 obtain ⟨row,ro,ms,h1,h2,h3,h4,h5,h6,h7⟩:=zc h;exact ⟨row,ro,ms,h1,h2,by rw [h3,xo6],h4,h5,h6,fun P cx st' a w pl Z R hr xs hx=>h7 P cx st' a w pl Z R hr xs (xo7 hx)⟩
theorem xd6 {st:St} {n:Nat}:∀ {css:List (List AV)} {del:List Nat} {k:List (List AV)->List (Nat × Ob)->List Nat->Prop},rowsOf st n css del k ->
 ∃
  (rows:List (List AV)) (ro:List (Nat × Ob)) (ms:List Nat),k rows ro (ms.reverse++del)/\RdO ro st/\rows.length=css.length/\(∀ row∈rows,row.length=n)/\(∀ cs∈css,cs.length=n)/\ms.Nodup/\(∀ m∈ms,m ∉ del)/\(∀ m∈ms,∃ t rows,lk ro m=some (.arr t rows false)) /\
  ∀
   (P:Program) (cx:Cx) (st':St) (a:Act) (w:World) (pl:Pl) (Z:Nat->Prop),Rel P cx st' a w pl Z->RdO ro st'->∀ xss:List (List Value),xss.length=css.length ->
   (∀ (j:Nat) cs xs,css[j]?=some cs->xss[j]?=some xs->Ars P st' pl Z w cs xs) ->
   ∃ fs:List (List Nat),fs.length=rows.flatten.length/\xss.flatten.length=rows.flatten.length/\fs.flatten=ms.flatMap pl.own/\∀ (k:Nat) (av:AV) (x:Value) (f:List Nat),rows.flatten[k]?=some av->xss.flatten[k]?=some x->fs[k]?=some f->Ow P w Z av x f
 | [],del,k,h=>⟨[],[],[],h,RdO.nil,rfl,(by simp),(by simp),x09,(by simp),(by simp),fun P cx st' a w pl Z R hr xss hx _=>by
    have:xss=[]:=x0k (by simpa using hx);subst this
    exact ⟨[],rfl,rfl,rfl,fun k av x f hk=>by simp at hk⟩⟩
 | cs::r,del,k,h=>by
   simp only [rowsOf] at h
   split at h
   · rename_i hlen;obtain ⟨row,ro,ms,h1,h2,h3,h4,h5,h6,h7⟩:=j1 h;obtain ⟨rows,ro',ms',g1,g2,g3,g4,g4',g5,g6,g7,g8⟩:=xd6 h1;refine ⟨row::rows,ro++ro',ms++ms',?_,RdO.append.2 ⟨h2,g2⟩,by simp [g3],?_,?_,?_,?_,?_,fun P cx st' a w pl Z R hr xss hx hxx=>?_⟩
     · simpa [x3l,x0c] using g1
     · intro q hq;rcases xzn.1 hq with rfl|hq
       · rw [h3]; exact zu.1 hlen
       · exact g4 q hq
     · intro q hq;rcases xzn.1 hq with rfl|hq
       · exact zu.1 hlen
       · exact g4' q hq
     · exact x0j.2 ⟨h4,g5,fun p hp q hq e=>by subst e; exact g6 p hq (by simp [hp])⟩
     · intro q hq;rcases xzs.1 hq with hq|hq
       · exact h5 q hq
       · exact fun hd=>g6 q hq (by simp [hd])
     · intro q hq;rw [jr];rcases xzs.1 hq with hq|hq
       · obtain ⟨t,rows,e⟩:=h6 q hq; exact ⟨t,rows,by rw [e]; rfl⟩
       · obtain ⟨t,rows,e⟩:=g7 q hq
         cases hl:lk ro q with
         | none=>exact ⟨t,rows,by simpa using e⟩
         | some o =>
           have e1:=h2 (q,o) (ym hl);have e2:=g2 (q,.arr t rows false) (ym e);simp only at e1 e2;rw [e1] at e2;exact ⟨t,rows,by simpa using e2⟩
     · match xss,hx with
       | xs::xss,hx =>
         obtain ⟨hr1,hr2⟩:=RdO.append.1 hr;have hxs:=hxx 0 cs xs rfl rfl;obtain ⟨fs,e1,e2,e3⟩:=h7 P cx st' a w pl Z R hr1 xs hxs;obtain ⟨fs',f1,f1',f2,f3⟩:=g8 P cx st' a w pl Z R hr2 xss (by simpa using hx) fun j cs xs hc hx=>hxx (j+1) cs xs (by simpa using hc) (by simpa using hx);have hl1:xs.length=row.length:=by rw [hxs.1,h3]
         refine ⟨fs++fs',by simp [e1,f1],by simp [hl1,f1'],by simp [e2,f2],fun k av x f hk hy hf=>?_⟩;simp only [x01] at hk hy;by_cases hkr:k<row.length
         · rw [x0a hkr] at hk;rw [x0a (by omega)] at hy;rw [x0a (by omega)] at hf;exact e3 k av x f hk hy hf
         · rw [xz8 (by omega)] at hk;rw [xz8 (by omega)] at hy;rw [xz8 (by omega)] at hf;rw [hl1] at hy; rw [e1] at hf;exact f3 _ av x f hk hy hf
   · exact h.elim
section
variable {P:Program} {cx:Cx} {st:St} {a:Act} {w:World} {pl:Pl} {Z:Nat->Prop}
theorem newarr (R:Rel P cx st a w pl Z) {dst:Option Nat} {uid:Nat} {rt:List (Nat × TV)} {ro:List (Nat × Ob)} {del:List Nat} {t:Nat} {rows:List (List AV)} {hv:Value} {w':World} {f:List Nat}
 (hok:okPk st uid ⟨rt,ro,.one (.ref (uid*64)),[(uid*64,.arr t rows false)],del⟩=true)
 (hdel:∀ m∈del,∃ t rows p,lk st.s m=some (.arr t rows p)) (chg:Chg w w' (fun b=>∃ m∈del,b∈pl.own m))
 (hw:Ow P w' Z (.sl t rows) hv f) (hnd:f.Nodup) (hf:∀ b∈f,w.heap.size<=b\/∃ m∈del,b∈pl.own m) :
 ∃ pl',Step P cx st w pl Z dst uid ⟨rt,ro,.one (.ref (uid*64)),[(uid*64,.arr t rows false)],del⟩ hv w' pl' Z:=by
 let pk:Pk:=⟨rt,ro,.one (.ref (uid*64)),[(uid*64,.arr t rows false)],del⟩;let ps:List Plc:=[⟨uid*64,.arr t rows false,hv,(0,0),f⟩];have hput:pk.put=ps.map fun p=>(p.n,p.o):=rfl;have hu':uniqN (ps.map (·.n))=true:=y7 hok;have hfr:=kk hok (by simp);have hd:uid*64 / 64=uid:=by omega
 have hnew:lk st.s (uid*64)=none:=kl R hfr hd;have hdh:∀ m∈del,st.has m:=fun m hm=>by obtain ⟨t,rows,p,h⟩:=hdel m hm; unfold St.has St.O; rw [h]; rfl
 have hW:∀ b,Wr st pl pk b↔∃ m∈del,b∈pl.own m:=by
  intro b;constructor
  · rintro ⟨n,hn|hn,hh,hb⟩
    · simp [pk,names] at hn; subst hn;unfold St.has St.O at hh; rw [hnew] at hh; cases hh
    · exact ⟨n,hn,hb⟩
  · rintro ⟨m,hm,hb⟩; exact ⟨m,.inr hm,hdh m hm,hb⟩
 have chg':Chg w w' (Wr st pl pk):=⟨chg.os,chg.tape,chg.output,chg.size,fun k hk hn=>chg.blk k hk fun h=>hn ((hW k).2 h)⟩;have hmem:(⟨uid*64,.arr t rows false,hv,(0,0),f⟩:Plc)∈ps:=xz5 ..;have hnz:∀ b∈f,¬ Z b:=by
  intro b hb hz;rcases hf b hb with h|⟨m,hm,hbm⟩
  · have:=(R.zlt b hz).1; omega
  · exact (R.lt m (hdh m hm) b hbm).2.1 hz
 refine ⟨over pl ps,Step.of R hok ps hput chg' (R.frm chg fun b ⟨m,hm,hb⟩=>?_) ?_ (fun _ h=>h) (fun _ h=>.inl h) ?_ ?_ ?_ ?_ ?_⟩
 · obtain ⟨t,rows,p,h⟩:=hdel m hm; exact ⟨m,t,rows,p,h,hb⟩
 · intro p hp o ho;rw [xzq.1 hp] at ho;rw [hnew] at ho; cases ho
 · intro p hp;rw [xzq.1 hp];refine ⟨?_,hnd,rfl,fun b hb=>⟨hw.lt b hb,hnz b hb,(hf b hb).imp_right (hW b).2⟩⟩;show Ow P w' Z (.sl t rows) _ _;rw [(xx (pl:=pl) hu' hmem).1,(xx (pl:=pl) hu' hmem).2.2];exact hw
 · intro p hp q hq hne;rw [xzq.1 hp,xzq.1 hq] at hne;exact absurd rfl hne
 · intro d _;refine ⟨fun t' rows' p' ho=>((xx (pl:=pl) hu' hmem).1).symm,vv hd⟩
 · intro i hi p hp row hr;rw [xzq.1 hp] at hr; cases hr
 · intro i hi p hp _;rw [xzq.1 hp];intro hb;obtain ⟨c,c',ty,e1,e2,e3,e4⟩:=R.fr.iob i hi;have hlt:=(x0t.1 e2).1;rcases hf _ hb with h|⟨m,hm,hbm⟩
   · omega
   · obtain ⟨t,rows,p,h⟩:=hdel m hm;exact R.ioa i hi m t rows p h hbm
end
end Go.AM
end
section
namespace Go.AM
open Go
theorem xg2:∀ {l:List (Nat × Operand)} {i:Nat},partsB i l=true->l=((l.map (·.2)).zipIdx i).map fun x=>(x.2,x.1)
 | [],_,_=>rfl
 |
  (j,x)::r,i,h=>by
  simp only [partsB] at h;cases hb:Nat.beq i j<;>rw [hb] at h
  · cases h
  · have:=xz2 hb;subst this;simp only [x0d,List.zipIdx_cons,x0d,x3e,true_and];exact xg2 h
theorem xg3 (f:Operand->Value):∀ (l:List Operand) (i:Nat),((l.zipIdx i).map fun x=>(x.2,x.1)).map (fun p=>(p.1,f p.2))=((l.map f).zipIdx i).map fun x=>(x.2,x.1)
 | [],_=>rfl
 | x::r,i=>by simp [List.zipIdx_cons,xg3 f r (i+1)]
theorem xg4 {vs:List Value}:(vs.flatMap fun v=>v.cells.toList)=(vs.map fun v=>v.cells.toList).flatten:=by simp [List.flatMap]
section
variable {P:Program} {o:Oper} {uid:Nat}
theorem xkp {x:Operand} (ho:o.op=.assign x) {rt:List (Nat × TV)} {t:Nat} (he:Ev P x rt (.one (.emp t))):Good P o uid ⟨rt,[],.one (.ref (uid*64)),[(uid*64,.arr t [] false)],[]⟩:=by
 intro cx st a w pl Z R ht hro hok K Q hK;obtain ⟨h1,h2⟩:=he cx st a w pl Z R ht;have h1:a.eval x=.slice none 0 0:=h1
 obtain ⟨pl',S⟩:=newarr R (dst:=o.dst) (hv:=.slice none 0 0) (f:=[]) hok (by simp) (Chg.refl w _)
  (Ow.sl (fs:=[]) (cells:=[]) (by simp) (fun row h=>by cases h) (World.ownsRow_nil _ _ _ _) rfl (fun k av x f h=>by simp at h)) x09 (by simp)
 have hrun:(execOp a.eval o).run P w=.ok (.value (.slice none 0 0)) w:=by simp [execOp,ho,h1]
 unfold Oper.wp;rw [hrun];exact hK _ _ _ _ S
theorem xi8 {w:World} {e c:Nat} {xs:List Value} (hs:xs.length=c*P.cellsOf e) (hm:c<=maxLen) :
 (w.alloc (.cells xs.toArray e)).ownsRow 0 e (P.cellsOf e) (.slice (some ⟨w.heap.size,0,none⟩) c c) c xs :=
 ⟨hs,.inr ⟨w.heap.size,c,xs.toArray,rfl,xz1 _,heap_alloc_new w _,x0r _,hm,by simp [hs],by simp [<- hs]⟩⟩
theorem zw {α:Type} {n:Nat}:∀ {rows:List (List α)},(∀ row∈rows,row.length=n)->rows.flatten.length=rows.length*n
 | [],_=>by simp
 | r::rs,h=>by
   rw [x01,xzu,h r (by simp),zw (rows:=rs) fun r hr=>h r (by simp [hr]),xz6,x1g]; omega
theorem jt {α:Type} {rows:List (List α)} {m i j:Nat} {row:List α} {av:α} (hw:∀ r∈rows,r.length=m) (hi:rows[i]?=some row) (hj:row[j]?=some av):rows.flatten[i*m+j]?=some av:=by
 induction rows generalizing i with
 | nil=>simp at hi
 | cons r rs ih =>
   have hr:=hw r (by simp)
   cases i with
   | zero =>
     simp at hi; subst hi;rw [x01,x0a (by have:=(xzm.1 hj).1; omega)];simpa using hj
   | succ i =>
     have:=ih (fun r hr=>hw r (by simp [hr])) (by simpa using hi);rw [x01,xz8 (by rw [hr,x1g]; omega)];rw [show (i+1)*m+j - r.length=i*m+j by rw [hr,x1g]; omega];exact this
theorem xd7 {y:Value} (h:y.oneCell'=true):y.cells.toList=[y]:=by cases y<;>first|rfl|cases h
theorem xfp {st:St} {pl:Pl} {Z:Nat->Prop} {w:World} {vs:List TV} {xv:List Value} {n:Nat} {rows:List (List AV)} {W:List Nat}
 (hval:∀ (j:Nat) (v:TV),vs[j]?=some v->∃ y,xv[j]?=some y/\Tr P st pl Z w v y) (hl:xv.length=vs.length) (hn:0<n) (hvl:∀ cs∈vs.map tvCells,cs.length=n) (hrl:rows.length=vs.length) (hrw:∀ row∈rows,row.length=n)
 (hrows:∀ xss:List (List Value),xss.length=(vs.map tvCells).length->(∀ (j:Nat) cs xs,(vs.map tvCells)[j]?=some cs->xss[j]?=some xs->Ars P st pl Z w cs xs) ->
   ∃ fs:List (List Nat),fs.length=rows.flatten.length/\xss.flatten.length=rows.flatten.length/\fs.flatten=W/\∀ (k:Nat) (av:AV) (x:Value) (f:List Nat),rows.flatten[k]?=some av->xss.flatten[k]?=some x->fs[k]?=some f->Ow P w Z av x f) :
 (∀ (j:Nat) (v:TV) (y:Value),vs[j]?=some v->xv[j]?=some y->Ars P st pl Z w (tvCells v) y.cells.toList) /\
 ∃ fs:List (List Nat),fs.length=rows.flatten.length/\(xv.map fun y=>y.cells.toList).flatten.length=rows.flatten.length/\fs.flatten=W/\∀ (k:Nat) (av:AV) (x:Value) (f:List Nat),rows.flatten[k]?=some av->(xv.map fun y=>y.cells.toList).flatten[k]?=some x->fs[k]?=some f->Ow P w Z av x f:=by
 let g:TV->Value->List Value:=fun v y=>match v with|.one _=>[y]|_=>y.cells.toList
 have hg:∀ (j:Nat) (v:TV) (y:Value),vs[j]?=some v->xv[j]?=some y->Ars P st pl Z w (tvCells v) (g v y):=by
  intro j v y hv hy;obtain ⟨y',hy',h⟩:=hval j v hv;rw [hy] at hy'; cases hy';have hvl':=hvl _ (xzv.2 ⟨v,xzy hv,rfl⟩)
  cases v with
  | one b =>
    refine ⟨rfl,fun k av y' hk hy=>?_⟩
    cases k with
    | zero=>simp [tvCells,g] at hk hy; subst hk; subst hy; exact h
    | succ k=>simp [tvCells] at hk
  | agg cs=>obtain ⟨xs,rfl,h3⟩:=h; exact h3
  | tup l=>simp [tvCells] at hvl'; omega
 have hz:∀ (j:Nat) (xs:List Value),(List.zipWith g vs xv)[j]?=some xs->∃ (v:TV) (y:Value),vs[j]?=some v/\xv[j]?=some y/\xs=g v y:=by
  intro j xs h;rw [x3a] at h;cases hv:vs[j]?<;>cases hy:xv[j]?<;>simp [hv,hy] at h;exact ⟨_,_,rfl,rfl,h.symm⟩
 obtain ⟨fs,f1,f1',f2,f3⟩:=hrows (List.zipWith g vs xv) (by simp [hl]) fun j cs xs hc hx=>by
  obtain ⟨v,y,hv,hy,rfl⟩:=hz j xs hx;simp only [xzr,hv,x0y,x0g] at hc;subst hc; exact hg j v y hv hy
 have heq:∀ (j:Nat) (v:TV) (y:Value),vs[j]?=some v->xv[j]?=some y->g v y=y.cells.toList:=by
  intro j v y hv hy;have hvl':=hvl _ (xzv.2 ⟨v,xzy hv,rfl⟩)
  cases v with
  | one b =>
    have hzj:(List.zipWith g vs xv)[j]?=some [y]:=by rw [x3a,hv,hy]
    have h1:n=1:=by simpa [tvCells] using hvl'.symm
    have hw':∀ r∈List.zipWith g vs xv,r.length=n:=by
     intro r hr;obtain ⟨j',hj',rfl⟩:=x0h.1 hr;obtain ⟨v',y',hv',hy',e⟩:=hz j' _ (xzh hj');rw [e,(hg j' v' y' hv' hy').1];exact hvl _ (xzv.2 ⟨v',xzy hv',rfl⟩)
    have h2:=jt (i:=j) (j:=0) hw' hzj rfl;have hj:j<rows.length:=by rw [hrl]; exact (xzm.1 hv).1
    have hr0:0<(rows[j]).length:=by rw [hrw _ (x0m hj)]; exact hn
    have h3:=jt (i:=j) (j:=0) hrw (xzh hj) (xzh hr0);have h4:j*n+0<fs.length:=by rw [f1]; exact (xzm.1 h3).1
    have:=(f3 _ _ _ _ h3 h2 (xzh h4)).oneCell;exact (xd7 this).symm
  | agg cs=>rfl
  | tup l=>rfl
 have e:List.zipWith g vs xv=xv.map fun y=>y.cells.toList:=by
  apply x2h;intro j;rw [x3a,xzr]
  cases hy:xv[j]? with
  | none=>cases vs[j]?<;>rfl
  | some y =>
    have hj:j<vs.length:=by rw [<- hl]; exact (xzm.1 hy).1
    rw [xzh hj];simp only [x0y,x0g];exact heq j _ y (xzh hj) hy
 rw [e] at f1' f3;refine ⟨fun j v y hv hy=>?_,fs,f1,f1',f2,f3⟩;rw [<- heq j v y hv hy]; exact hg j v y hv hy
theorem xif {t e n:Nat} {ti:TI} {w:World} (hu:P.underlying t=some (.slice e)) (hT:TIok P e ti) (hsmall:n<=4096) {parts:Array (Nat × Value)} {xv:List Value}
 (hpl:parts.toList=(xv.zipIdx 0).map fun x=>(x.2,x.1)) (hsz:∀ y∈xv,y.cells.size=ti.n) (hxvn:xv.length=n) :
 (Instr.buildSlice t n parts).run P w=.ok (.slice (some ⟨w.heap.size,0,none⟩) n n) (w.alloc (.cells (xv.map fun y=>y.cells.toList).flatten.toArray e)):=by
 obtain ⟨i,z,h1,h2,h3,h4,h5⟩:=hT.zlen;have hbig:¬ (2 ^ 24<n*ti.n):=by
  have:=Nat.mul_le_mul hsmall hT.small;omega
 have hfill:∀ cs:Array Value,cs.size=n*ti.n->Instr.fill (fun i=>some (i*ti.n,ti.n)) cs parts.toList=some (xv.map fun y=>y.cells.toList).flatten.toArray:=by
  intro cs hc;rw [hpl,<- xg4];exact Great.fill_whole hT.pos xv cs hsz (by rw [hxvn,hc])
 by_cases h0:n*ti.n=0
 · have h:=hfill (Array.map (fun x=>default) (Array.range 0)) (by simp [h0]);simp [Instr.buildSlice,run_underlying hu,hT.size,h0,h,newRow]
 · simp [Instr.buildSlice,run_underlying hu,hT.size,hbig,h0,zeroValue,typeInfo,h1,h2,hfill,newRow]
theorem xg5 {t e n:Nat} {ti:TI} {parts:Array (Nat × Operand)} (ho:o.op=.buildSlice t n parts) (hu:P.underlying t=some (.slice e)) (hT:TIok P e ti) (hn:parts.size=n) (hp:partsB 0 parts.toList=true) (hsmall:n<=4096)
 {rt:List (Nat × TV)} {vs:List TV} {rows:List (List AV)} {ro:List (Nat × Ob)} {ms:List Nat}
 (hx:vs.length=parts.size/\∀ (j:Nat) (x:Operand) (v:TV),(parts.toList.map (·.2))[j]?=some x->vs[j]?=some v->∃ rt',Ev P x rt' v/\∀ p∈rt',p∈rt)
 (hrl:rows.length=vs.length) (hrw:∀ row∈rows,row.length=ti.n) (hvl:∀ cs∈vs.map tvCells,cs.length=ti.n) (hnd:ms.Nodup) (hms:∀ m∈ms,∃ t rows,lk ro m=some (.arr t rows false))
 (hrows:∀ (P:Program) (cx:Cx) (st':St) (a:Act) (w:World) (pl:Pl) (Z:Nat->Prop),Rel P cx st' a w pl Z->RdO ro st'->∀ xss:List (List Value),xss.length=(vs.map tvCells).length ->
   (∀ (j:Nat) cs xs,(vs.map tvCells)[j]?=some cs->xss[j]?=some xs->Ars P st' pl Z w cs xs) ->
   ∃ fs:List (List Nat),fs.length=rows.flatten.length/\xss.flatten.length=rows.flatten.length/\fs.flatten=ms.flatMap pl.own/\∀ (k:Nat) (av:AV) (x:Value) (f:List Nat),rows.flatten[k]?=some av->xss.flatten[k]?=some x->fs[k]?=some f->Ow P w Z av x f) :
 Good P o uid ⟨rt,ro,.one (.ref (uid*64)),[(uid*64,.arr e rows false)],ms.reverse⟩:=by
 intro cx st a w pl Z R ht hro hok K Q hK;let xv:=(parts.toList.map (·.2)).map a.eval;have hxvl:xv.length=vs.length:=by simp [xv,hx.1]
 have hmem:∀ m∈ms,∃ t rows p,lk st.s m=some (.arr t rows p):=fun m hm=>by
  obtain ⟨t,rows,h⟩:=hms m hm;exact ⟨t,rows,false,hro (m,_) (ym h)⟩
 have hval:∀ (j:Nat) (v:TV),vs[j]?=some v->∃ y,xv[j]?=some y/\Tr P st pl Z w v y:=by
  intro j v hv;have hj:j<vs.length:=(xzm.1 hv).1;have hj':j<(parts.toList.map (·.2)).length:=by simpa [<- hx.1] using hj
  obtain ⟨rt',he,hsub⟩:=hx.2 j _ v (xzh hj') hv;obtain ⟨h1,h2⟩:=he cx st a w pl Z R fun p hp=>ht p (hsub p hp);exact ⟨a.eval (parts.toList.map (·.2))[j],by simp only [xv]; rw [xzr,xzh hj']; rfl,h1⟩
 obtain ⟨hcs,fs,f1,f1',f2,f3⟩:=xfp hval hxvl hT.pos hvl hrl hrw (hrows P cx st a w pl Z R hro);let cells:=(xv.map fun y=>y.cells.toList).flatten;have hcl:cells.length=n*P.cellsOf e:=by
  show (xv.map fun y=>y.cells.toList).flatten.length=_;rw [f1',zw hrw,hrl,hx.1,hn,hT.cells]
 have hsz:∀ y∈xv,y.cells.size=ti.n:=by
  intro y hy;obtain ⟨j,hj,rfl⟩:=x0h.1 hy;have hj':j<vs.length:=by omega
  have:=(hcs j _ _ (xzh hj') (xzh hj)).1;rw [x02] at this;rw [this]; exact hvl _ (xzv.2 ⟨_,x0m hj',rfl⟩)
 have hxvn:xv.length=n:=by rw [hxvl,hx.1,hn]
 have hrun:(execOp a.eval o).run P w=.ok (.value (.slice (some ⟨w.heap.size,0,none⟩) n n)) (w.alloc (.cells cells.toArray e)):=by
  have hpl:(parts.map fun p=>(p.1,a.eval p.2)).toList=(xv.zipIdx 0).map fun x=>(x.2,x.1):=by
   rw [x28]
   conv=>lhs; rw [xg2 hp]
   exact xg3 a.eval _ 0
  have:=xif (w:=w) hu hT hsmall hpl hsz hxvn;simp [execOp,ho,this,cells]
 have hown:=xi8 (P:=P) (w:=w) (e:=e) (c:=n) hcl (by unfold maxLen; omega);have hOw:Ow P (w.alloc (.cells cells.toArray e)) Z (.sl e rows) (.slice (some ⟨w.heap.size,0,none⟩) n n) (w.heap.size::ms.flatMap pl.own):=by
  have:=Ow.sl (P:=P) (Z:=Z) (t:=e) (rows:=rows) (cells:=cells) (fs:=fs) (v:=.slice (some ⟨w.heap.size,0,none⟩) n n) (w:=w.alloc (.cells cells.toArray e)) (by rw [hrl,hx.1,hn]; omega) (fun row h=>by rw [hT.cells]; exact hrw row h)
   (by rw [hrl,hx.1,hn]; exact hown) (by rw [f1]; exact f1'.symm) fun k av x f h1 h2 h3=>by
     refine (f3 k av x f h1 h2 h3).mono (fun _ h=>h) (fun b hb=>?_) (fun b hb=>?_)
     · exact (Chg.alloc w _ (fun _=>False)).blk b (R.zlt b hb).1 (fun h=>h)
     · have hb':=yn h3 b hb;rw [f2] at hb';obtain ⟨m,hm,hbm⟩:=x0i.1 hb';obtain ⟨t',rows',p',hl⟩:=hmem m hm;exact (Chg.alloc w _ (fun _=>False)).blk b (R.lt m (by unfold St.has St.O; rw [hl]; rfl) b hbm).1 (fun h=>h)
  simp only [Value.ownBlock,Option.toList,List.singleton_append,f2] at this;exact this
 have hown_lt:∀ b∈ms.flatMap pl.own,b<w.heap.size:=by
  intro b hb;obtain ⟨m,hm,hbm⟩:=x0i.1 hb;obtain ⟨t',rows',p',hl⟩:=hmem m hm;exact (R.lt m (by unfold St.has St.O; rw [hl]; rfl) b hbm).1
 obtain ⟨pl',S⟩:=newarr R (dst:=o.dst) hok (fun m hm=>hmem m (by simpa using hm)) (Chg.alloc w _ _) hOw
  (x0x.2 ⟨fun h=>by have:=hown_lt _ h; omega,qq R hnd fun m hm=>by obtain ⟨t',rows',p',hl⟩:=hmem m hm; unfold St.has St.O; rw [hl]; rfl⟩)
  (fun b hb=>by
    rcases xzn.1 hb with rfl|hb
    · exact .inl (x0r _)
    · obtain ⟨m,hm,hbm⟩:=x0i.1 hb
      exact .inr ⟨m,by simpa using hm,hbm⟩)
 unfold Oper.wp;rw [hrun];exact hK _ _ _ _ S
end
end Go.AM
end
section
namespace Go.AM
open Go
theorem TIok.facts {P:Program} {e:Nat} {ti:TI} (h:TIok P e ti):∃ i z,P.info? e=some i/\i.zero=some z/\i.size=ti.n/\z.cells.size=ti.n/\i.bytes<=1048576:=by
 obtain ⟨i,z,h1,h2,h3,h4,h5⟩:=h.zlen;refine ⟨i,z,h1,h2,h4,?_,h5⟩;have:∀ {as1:List AV} {xs:List Value},zsOk as1 xs=true->xs.length=as1.length:=by
  intro as1
  induction as1 with
  | nil=>intro xs h; cases xs; rfl; cases h
  | cons a r ih=>intro xs h; cases xs; cases h; simp only [zsOk,xzj] at h; simp [ih h.2]
 have:=this h3;rw [<- h.zl,<- this,x02]
section
variable {P:Program} {w:World}
theorem xw3 {t ty e:Nat} {ti:TI} (ht:P.underlying t=some (.slice e)) (hT:TIok P e ti) {v:Value} {n m:Nat} {xs news:List Value} (hown:w.ownsRow 0 e (P.cellsOf e) v n xs)
 {src:Value} {ad:Option Addr} {c:Nat} (hs:src=.slice ad m c) (hl:news.length=m*P.cellsOf e) (hm:m≠0->∃ b o,ad=some ⟨b,o,none⟩) (hnews:∀ b o k x,ad=some ⟨b,o,none⟩->news[k]?=some x->w.cell? ⟨b,o+k,none⟩=some x)
 (h1:∀ u∈news,u.oneCell'=true) (hb:n+m<=1048576) :
 ∃ v' w',(Builtin.append_ #[t,t] ty #[v,src]).run P w=.ok v' w'/\w'.ownsRow 0 e (P.cellsOf e) v' (n+m) (xs++news)/\w.grownBy w' v.ownBlock/\∀ g,v'.ownBlock=some g->v.ownBlock=some g\/w.heap.size<=g:=by
 subst hs;obtain ⟨i,z,hi,hz,hsz,hzs,hby⟩:=hT.facts;rw [hT.cells] at *;have h63:n+m<=maxLen:=by unfold maxLen; omega
 have hbytes:(n+m)*i.bytes<=140737488355328:=x1r (Nat.mul_le_mul hb hby) (by decide);by_cases h0:m=0
 · subst h0;have hn0:news=[]:=x0k (by simpa using hl);subst hn0;refine ⟨v,w,?_,by simpa using hown,⟨rfl,rfl,rfl,x0r _,fun _ _ _=>rfl⟩,fun g h=>.inl h⟩;have hfc:∀ ad:Option Addr,(Builtin.firstCells i.size 0 (.slice ad 0 c)).run P w=.ok #[] w:=by
    intro ad
    cases ad with
    | none=>simp [Builtin.firstCells]
    | some a=>simp [Builtin.firstCells,loadCells,loadCellsFrom]
   rcases hown.2 with ⟨rfl,rfl⟩|⟨g,cap,cur,rfl,_,_,hnc,_⟩
   · simp [Builtin.append_,run_underlying ht,sizeOf,typeInfo,hi,Builtin.lenOf,hfc]
   · simp [Builtin.append_,run_underlying ht,sizeOf,typeInfo,hi,Builtin.lenOf,hfc,hnc,storeCells]
 · obtain ⟨b,o,rfl⟩:=hm h0;have hnews':∀ j u,news[j]?=some u->w.cell? ((⟨b,o,none⟩:Addr).add j)=some u:=by
    intro j u hu;rw [qb]; exact hnews b o j u rfl hu
   rcases hown.2 with ⟨rfl,rfl⟩|⟨g,cap,cur,rfl,hbg,hg,hnc,hcm,hcs,htake⟩
   · obtain ⟨v',w',hr,h2,h3,h4⟩:=run_append_own (P:=P) w w.heap.size t ty e i z ti.n i.bytes ht hi hz hsz rfl hzs hT.pos (.slice none 0 0) 0 xs ⟨hown.1,.inl ⟨rfl,rfl⟩⟩ ⟨b,o,none⟩ m c news hl hnews' h1 h63 hbytes (x0r _);refine ⟨v',w',hr,⟨h2.1,?_⟩,h3,fun g hg=>.inr (h2.lt g hg).1⟩;rcases h2.2 with h|⟨g,cap,cur,e1,e2,e3⟩
     · exact .inl h
     · exact .inr ⟨g,cap,cur,e1,xz1 _,e3⟩
   · by_cases hroom:n+m<=cap
     · obtain ⟨w',hr,h2,h3⟩:=run_append_fits (P:=P) w 0 t ty e i ti.n ht hi hsz g n cap xs hown ⟨b,o,none⟩ m c news hl hnews' h1 hroom;exact ⟨_,w',hr,h2,h3,fun g' h=>.inl h⟩
     · have holds:∀ j u,xs[j]?=some u->w.cell? ((⟨g,0,none⟩:Addr).add j)=some u:=hown.cells (g:=g) rfl;have hr:=run_append_grow (P:=P) w t ty e i z ht hi hz ⟨g,0,none⟩ n cap xs (by rw [hsz]; exact hown.1) holds ⟨b,o,none⟩ m c news (by rw [hsz]; exact hl) hnews' (by omega) (by omega) (growslice_fits (by omega) hbytes);have hge:=grownCap_ge w (n+m) cap e;have hcm:grownCap w (n+m) cap e<=maxLen:=grownCap_le_maxLen w (n+m) cap e h63;have hlen:(xs++news).length=(n+m)*ti.n:=by rw [xzu,hown.1,hl,x3o]
       refine ⟨_,_,hr,⟨hlen,.inr ⟨w.heap.size,_,_,rfl,xz1 _,heap_alloc_new w.drew _,hge,hcm,?_,?_⟩⟩,⟨rfl,rfl,rfl,by simp,fun k hk _=>heap_alloc_old w.drew _ hk⟩,fun g' h=>.inr ?_⟩
       · simp only [x3w,x1t,size_zeroCells,hzs,hown.1,hl,<- x3o];congr 1;omega
       · simp only [Array.toList_append,x0c];rw [<- x0c,<- hlen];exact List.take_left
       · simp [Value.ownBlock] at h; omega
end
section
variable {P:Program} {cx:Cx} {st:St} {a:Act} {w:World} {pl:Pl} {Z:Nat->Prop}
theorem xcg (R:Rel P cx st a w pl Z) {n t:Nat} {rows:List (List AV)} {p:Bool} (hob:lk st.s n=some (.arr t rows p)) :
 ∃
  (cells:List Value) (fs:List (List Nat)),w.ownsRow 0 t (P.cellsOf t) (pl.hdr n) rows.length cells/\(∀ row∈rows,row.length=P.cellsOf t)/\fs.length=cells.length/\cells.length=rows.length*P.cellsOf t /\
  (∀ (k:Nat) (av:AV) (x:Value) (f:List Nat),rows.flatten[k]?=some av->cells[k]?=some x->fs[k]?=some f->Ow P w Z av x f)/\pl.own n=(pl.hdr n).ownBlock.toList++fs.flatten:=by
 have h:Ow P w Z (.sl t rows) (pl.hdr n) (pl.own n):=R.obj n _ hob;generalize hv:pl.hdr n=v at h;generalize hf:pl.own n=f at h
 cases h with
 | @sl _ _ _ cells fs hmm hw hown hlen hr=>exact ⟨cells,fs,hown,hw,hlen,hown.1,hr,rfl⟩
theorem xvd (R:Rel P cx st a w pl Z) {dst:Option Nat} {uid:Nat} {rt:List (Nat × TV)} {ro:List (Nat × Ob)} {n t te ty m:Nat} {ti:TI} {rows rows2:List (List AV)} {ms:List Nat} (ht:P.underlying t=some (.slice te)) (hT:TIok P te ti)
 (hob:lk st.s n=some (.arr te rows false)) (hms:(n::ms).Nodup) (hmo:∀ q∈ms,∃ t rows p,lk st.s q=some (.arr t rows p))
 {src:Value} {ad:Option Addr} {c:Nat} {news:List Value} {fs2:List (List Nat)} (hs:src=.slice ad m c) (hl:news.length=m*P.cellsOf te) (hm:m≠0->∃ b o,ad=some ⟨b,o,none⟩) (hnews:∀ b o k x,ad=some ⟨b,o,none⟩->news[k]?=some x->w.cell? ⟨b,o+k,none⟩=some x)
 (hrl:rows2.length=m) (hrw:∀ row∈rows2,row.length=P.cellsOf te) (hf2:fs2.length=news.length)
 (how:∀ (k:Nat) (av:AV) (x:Value) (f:List Nat),rows2.flatten[k]?=some av->news[k]?=some x->fs2[k]?=some f->Ow P w Z av x f)
 (hsub:∀ b∈fs2.flatten,∃ q∈ms,b∈pl.own q) (hnd:fs2.flatten.Nodup) (hb:rows.length+m<=1048576)
 (hok:okPk st uid ⟨rt,ro,.one (.ref (uid*64)),[(uid*64,.arr te (rows++rows2) false)],n::ms⟩=true) :
 ∃ v' w' pl',(Builtin.append_ #[t,t] ty #[pl.hdr n,src]).run P w=.ok v' w'/\Step P cx st w pl Z dst uid ⟨rt,ro,.one (.ref (uid*64)),[(uid*64,.arr te (rows++rows2) false)],n::ms⟩ v' w' pl' Z:=by
 obtain ⟨cells,fs,h1,h2,h3,h4,h5,h6⟩:=xcg R hob;have hn:st.has n:=by unfold St.has St.O; rw [hob]; rfl
 have hone:∀ u∈news,u.oneCell'=true:=by
  intro u hu;obtain ⟨k,hk,rfl⟩:=x0h.1 hu;have hk2:k<rows2.flatten.length:=by rw [zw hrw,hrl,<- hl]; exact hk
  exact (how k _ _ _ (xzh hk2) (xzh hk) (xzh (hf2▸hk))).oneCell
 obtain ⟨v',w',hr,g1,g2,g3⟩:=xw3 (P:=P) (ty:=ty) ht hT h1 hs hl hm hnews hone hb;have hfl:rows.flatten.length=cells.length:=by rw [zw h2,h4]
 have hnd0:((pl.hdr n).ownBlock.toList++fs.flatten).Nodup:=h6▸R.nd n hn;have hdis:∀ b∈pl.own n,b ∉ fs2.flatten:=by
  intro b hb hb2;obtain ⟨q,hq,hbq⟩:=hsub b hb2;obtain ⟨t',r',p',hq'⟩:=hmo q hq;exact R.dj n q hn (by unfold St.has St.O; rw [hq']; rfl) (fun e=>(x0x.1 hms).1 (by rw [e]; exact hq)) b hb hbq
 have hkeep:∀ b,b<w.heap.size->some b≠(pl.hdr n).ownBlock->w'.heap[b]?=w.heap[b]?:=g2.block;have hmine:∀ b,some b=(pl.hdr n).ownBlock->b∈pl.own n:=by intro b hb; rw [h6,<- hb]; simp
 have hdist:∀ b∈fs.flatten,some b≠(pl.hdr n).ownBlock:=by
  intro b hb e;rw [<- e] at hnd0;exact (x0j.1 hnd0).2.2 b (by simp) b hb rfl
 have hlt0:∀ b∈pl.own n,b<w.heap.size/\¬ Z b:=fun b hb=>⟨(R.lt n hn b hb).1,(R.lt n hn b hb).2.1⟩;have hlt2:∀ b∈fs2.flatten,b<w.heap.size:=by
  intro b hb;obtain ⟨q,hq,hbq⟩:=hsub b hb;obtain ⟨t',r',p',hq'⟩:=hmo q hq;exact (R.lt q (by unfold St.has St.O; rw [hq']; rfl) b hbq).1
 have hZ:∀ b,Z b->w'.heap[b]?=w.heap[b]?:=fun b hb=>hkeep b (R.zlt b hb).1 fun e=>(hlt0 b (hmine b e)).2 hb;have hOw:Ow P w' Z (.sl te (rows++rows2)) v' (v'.ownBlock.toList++(fs++fs2).flatten):=by
  refine Ow.sl (cells:=cells++news) (fs:=fs++fs2) (by rw [xzu]; omega) (fun row h=>?_) (by rw [xzu,hrl]; exact g1) (by simp [h3,hf2]) fun k av x f hk hx hf=>?_
  · rcases xzs.1 h with h|h
    · exact h2 row h
    · exact hrw row h
  · rw [x07] at hk;by_cases hkl:k<cells.length
    · rw [x0a (by omega)] at hk hx hf;refine (h5 k av x f hk hx hf).mono (fun _ h=>h) hZ fun b hb=>?_;have hbf:=yn hf b hb;exact hkeep b (hlt0 b (by rw [h6]; exact xzz _ hbf)).1 (hdist b hbf)
    · rw [xz8 (by omega)] at hk hx hf;rw [hfl] at hk; rw [h3] at hf;refine (how _ av x f hk hx hf).mono (fun _ h=>h) hZ fun b hb=>?_;have hbf:=yn hf b hb;exact hkeep b (hlt2 b hbf) fun e=>hdis b (hmine b e) hbf
 have hsubf:∀ b∈(fs++fs2).flatten,b<w.heap.size:=by
  intro b hb;rw [x07] at hb;rcases xzs.1 hb with hb|hb
  · exact (hlt0 b (by rw [h6]; exact xzz _ hb)).1
  · exact hlt2 b hb
 have hnd2:(v'.ownBlock.toList++(fs++fs2).flatten).Nodup:=by
  rw [x07]
  have hff:(fs.flatten++fs2.flatten).Nodup:=x0j.2 ⟨(x0j.1 hnd0).2.1,hnd,fun b hb c hc e=>by
   subst e; exact hdis b (by rw [h6]; exact xzz _ hb) hc⟩
  cases hg:v'.ownBlock with
  | none=>simpa using hff
  | some g =>
    refine x0x.2 ⟨fun hm=>?_,by simpa using hff⟩;have hm:g∈fs.flatten++fs2.flatten:=hm;rcases g3 g hg with h|h
    · rcases xzs.1 hm with hm|hm
      · exact hdist g hm h.symm
      · exact hdis g (hmine g h.symm) hm
    · have:=hsubf g (by rw [x07]; exact hm); omega
 obtain ⟨pl',S⟩:=newarr R (dst:=dst) hok (fun q hq=>by
  rcases xzn.1 hq with rfl|hq
  · exact ⟨te,rows,false,hob⟩
  · exact hmo q hq)
  ⟨g2.os,g2.tape,g2.output,g2.size,fun k hk hn'=>hkeep k hk fun e=>hn' ⟨n,by simp,hmine k e⟩⟩ hOw hnd2 fun b hb=>by
    rcases xzs.1 hb with hb|hb
    · have hb':v'.ownBlock=some b:=by cases h:v'.ownBlock<;>simp [h] at hb; exact congrArg some hb.symm
      rcases g3 b hb' with h|h
      · exact .inr ⟨n,by simp,hmine b h.symm⟩
      · exact .inl h
    · rw [x07] at hb;rcases xzs.1 hb with hb|hb
      · exact .inr ⟨n,by simp,by rw [h6]; exact xzz _ hb⟩
      · obtain ⟨q,hq,hbq⟩:=hsub b hb;exact .inr ⟨q,by simp [hq],hbq⟩
 exact ⟨v',w',pl',hr,S⟩
end
end Go.AM
end
section
namespace Go.AM
open Go
theorem xaf {w:World} {e size n:Nat} {v:Value} {xs:List Value} (h:w.ownsRow 0 e size v n xs):∃ ad c,v=.slice ad n c/\n<=c/\(n≠0->∃ b o,ad=some ⟨b,o,none⟩) /\
 ∀ b o k x,ad=some ⟨b,o,none⟩->xs[k]?=some x->w.cell? ⟨b,o+k,none⟩=some x:=by
 rcases h.2 with ⟨rfl,rfl⟩|⟨g,cap,cur,rfl,_,hg,hc,_⟩
 · exact ⟨none,0,rfl,x0r _,fun h=>absurd rfl h,fun b o k x h=>by cases h⟩
 · refine ⟨some ⟨g,0,none⟩,cap,rfl,hc,fun _=>⟨g,0,rfl⟩,fun b o k x hb hx=>?_⟩;simp at hb;obtain ⟨rfl,rfl⟩:=hb;have:=h.cells (g:=g) rfl k x hx;rw [qb] at this; exact this
theorem Rd.inv_sl {P:Program} {w:World} {S:Nat->Prop} {t:Nat} {rows:List (List AV)} {x:Value} (h:Rd P w S (.sl t rows) x):∃ (ad:Option Addr) (cap:Nat) (cells:List Value),x=.slice ad rows.length cap/\rows.length<=cap /\
 (∀ row∈rows,row.length=P.cellsOf t)/\cells.length=rows.length*P.cellsOf t/\(rows≠[]->∃ b o,ad=some ⟨b,o,none⟩/\S b) /\
 (∀ b o k x,ad=some ⟨b,o,none⟩->cells[k]?=some x->w.cell? ⟨b,o+k,none⟩=some x)/\(∀ (k:Nat) (av:AV) (x:Value),rows.flatten[k]?=some av->cells[k]?=some x->Rd P w S av x):=by
 cases h with
 | @sl _ _ a len cap cells hmm hl hcap hwd hn hb hc hr=>subst hl; exact ⟨a,cap,cells,rfl,hcap,hwd,hn,hb,hc,hr⟩
section
variable {P:Program} {o:Oper} {uid:Nat}
theorem xc2 {c:Call} {x y:Operand} {t te:Nat} {ti:TI} (ho:o.op=.call c) (hc:c.callee=.builtin .append) (ha:c.args.toList=[x,y]) (hty:c.argTypes.toList=[t,t]) (hu:P.underlying t=some (.slice te)) (hT:TIok P te ti)
 {rt:List (Nat × TV)} {ro:List (Nat × Ob)} {n:Nat} {rows rows2:List (List AV)} {ms:List Nat} {rx:List (Nat × TV)} (hx:Ev P x rx (.one (.ref n))) (hrx:∀ p∈rx,p∈rt) (hob:lk ro n=some (.arr te rows false))
 (hms:(n::ms).Nodup) (hmo:∀ q∈ms,∃ t rows p,lk ro q=some (.arr t rows p)) (hb:rows.length+rows2.length<=1048576)
 (hsrc:∀ (cx:Cx) (st:St) (a:Act) (w:World) (pl:Pl) (Z:Nat->Prop),Rel P cx st a w pl Z->RdT rt st->RdO ro st->∃ (ad:Option Addr) (c:Nat) (news:List Value) (fs2:List (List Nat)),a.eval y=.slice ad rows2.length c/\news.length=rows2.length*P.cellsOf te /\
   (rows2.length≠0->∃ b o,ad=some ⟨b,o,none⟩)/\(∀ b o k x,ad=some ⟨b,o,none⟩->news[k]?=some x->w.cell? ⟨b,o+k,none⟩=some x)/\(∀ row∈rows2,row.length=P.cellsOf te)/\fs2.length=news.length /\
   (∀ (k:Nat) (av:AV) (x:Value) (f:List Nat),rows2.flatten[k]?=some av->news[k]?=some x->fs2[k]?=some f->Ow P w Z av x f)/\(∀ b∈fs2.flatten,∃ q∈ms,b∈pl.own q)/\fs2.flatten.Nodup) :
 Good P o uid ⟨rt,ro,.one (.ref (uid*64)),[(uid*64,.arr te (rows++rows2) false)],n::ms⟩:=by
 intro cx st a w pl Z R ht hro hok K Q hK;obtain ⟨h1,h2⟩:=hx cx st a w pl Z R fun p hp=>ht p (hrx p hp);obtain ⟨ad,cc,news,fs2,e1,e2,e3,e4,e5,e6,e7,e8,e9⟩:=hsrc cx st a w pl Z R ht hro;have hob':lk st.s n=some (.arr te rows false):=hro (n,_) (ym hob)
 obtain ⟨v',w',pl',hr,S⟩:=xvd R (dst:=o.dst) (ty:=o.type) hu hT hob' hms (fun q hq=>by obtain ⟨t,r,p,h⟩:=hmo q hq; exact ⟨t,r,p,hro (q,_) (ym h)⟩)
  e1 e2 e3 e4 rfl e5 e6 e7 e8 e9 hb hok
 have h3:a.eval x=pl.hdr n:=h1 te rows false hob';have hargs:c.args.map a.eval=#[pl.hdr n,a.eval y]:=by
  apply x3f;simp [ha,h3]
 have hts:c.argTypes=#[t,t]:=by apply x3f; simp [hty]
 have hrun:(execOp a.eval o).run P w=.ok (.value v') w':=by
  refine jk ho hc ?_;rw [hargs,hts];simp [builtin,hr]
 unfold Oper.wp;rw [hrun];exact hK _ _ _ _ S
theorem xkq {c:Call} {x y:Operand} {t te:Nat} {ti:TI} (ho:o.op=.call c) (hc:c.callee=.builtin .append) (ha:c.args.toList=[x,y]) (hty:c.argTypes.toList=[t,t]) (hu:P.underlying t=some (.slice te)) (hT:TIok P te ti)
 {rx ry:List (Nat × TV)} {n m:Nat} {rows rows2:List (List AV)} (hx:Ev P x rx (.one (.ref n))) (hy:Ev P y ry (.one (.ref m))) (hne:m≠n) (hb:rows.length+rows2.length<=1048576) :
 Good P o uid ⟨rx++ry,[(n,.arr te rows false),(m,.arr te rows2 false)],.one (.ref (uid*64)),[(uid*64,.arr te (rows++rows2) false)],[n,m]⟩:=by
 refine xc2 ho hc ha hty hu hT hx (fun p hp=>xzt _ hp) (by simp [x4]) (by simp; exact fun e=>hne e.symm) (fun q hq=>?_) hb fun cx st a w pl Z R ht hro=>?_
 · rw [xzq.1 hq]; exact ⟨te,rows2,false,by rw [x4,if_neg fun e=>hne e.symm,x4,if_pos rfl]⟩
 · obtain ⟨h1,h2⟩:=hy cx st a w pl Z R (RdT.append.1 ht).2;have hob:lk st.s m=some (.arr te rows2 false):=(RdO.cons.1 (RdO.cons.1 hro).2).1;obtain ⟨cells,fs,g1,g2,g3,g4,g5,g6⟩:=xcg R hob;obtain ⟨ad,cc,e1,e2,e3,e4⟩:=xaf g1;have hm:st.has m:=by unfold St.has St.O; rw [hob]; rfl
   have h3:a.eval y=pl.hdr m:=h1 te rows2 false hob;refine ⟨ad,cc,cells,fs,by rw [h3,e1],g4,e3,e4,g2,g3,g5,fun b hb=>⟨m,by simp,by rw [g6]; exact xzz _ hb⟩,?_⟩;have:=R.nd m hm;rw [g6] at this;exact (x0j.1 this).2.1
theorem vx {α:Type} {rows:List (List α)} {k:Nat} {x:α} (h:rows.flatten[k]?=some x):∃ row∈rows,x∈row:=by
 obtain ⟨l,hl,hx⟩:=x08.1 (xzy h);exact ⟨l,hl,hx⟩
theorem jl {α:Type} (n:Nat):(List.replicate n ([]:List α)).flatten=[]:=by
 induction n with
 | zero=>rfl
 | succ n ih=>simp [List.replicate_succ,ih]
theorem xkr {c:Call} {x y:Operand} {t te:Nat} {ti:TI} (ho:o.op=.call c) (hc:c.callee=.builtin .append) (ha:c.args.toList=[x,y]) (hty:c.argTypes.toList=[t,t]) (hu:P.underlying t=some (.slice te)) (hT:TIok P te ti)
 {rx ry:List (Nat × TV)} {n:Nat} {ns:List Nat} {ro:List (Nat × Ob)} {rows rows2:List (List AV)} (hx:Ev P x rx (.one (.ref n))) (hy:Ev P y ry (.one (.fr ns te rows2))) (hal:∀ st',RdO ro st'->∀ n∈ns,st'.has n) (hb:rows.length+rows2.length<=1048576) (hp:allPrim rows2) :
 Good P o uid ⟨rx++ry,(n,.arr te rows false)::ro,.one (.ref (uid*64)),[(uid*64,.arr te (rows++rows2) false)],[n]⟩:=by
 refine xc2 ho hc ha hty hu hT hx (fun p hp=>xzt _ hp) (by simp [x4]) (by simp) (fun q hq=>by cases hq) hb fun cx st a w pl Z R ht hro=>?_;obtain ⟨h1,h2⟩:=hy cx st a w pl Z R (RdT.append.1 ht).2;have h3:Rd P w (Sup pl Z ns) (.sl te rows2) (a.eval y):=h1 (hal st (RdO.cons.1 hro).2);obtain ⟨ad,cap,cells,e1,e2,e3,e4,e5,e6,e7⟩:=h3.inv_sl;refine ⟨ad,cap,cells,List.replicate cells.length [],e1,e4,fun h=>?_,e6,e3,by simp,fun k av x f hk hx hf=>?_,fun b hb=>by (rw [jl] at hb; cases hb),by rw [jl]; exact x09⟩
 · obtain ⟨b,o,h4,_⟩:=e5 (fun e=>h (by rw [e]; rfl)); exact ⟨b,o,h4⟩
 · have h4:=e7 k av x hk hx;obtain ⟨row,hr,hm⟩:=vx hk;obtain ⟨v,rfl⟩:=hp row hr av hm;have hf':f=[]:=x1a (xzy hf);subst hf'
   cases h4 with
   | prim h=>exact .prim h
theorem xks {c:Call} {x y:Operand} {t te:Nat} {ti:TI} (ho:o.op=.call c) (hc:c.callee=.builtin .append) (ha:c.args.toList=[x,y]) (hty:c.argTypes.toList=[t,t]) (hu:P.underlying t=some (.slice te)) (hT:TIok P te ti)
 {rx ry:List (Nat × TV)} {n m:Nat} {rows rows2:List (List AV)} (hx:Ev P x rx (.one (.ref n))) (hy:Ev P y ry (.one (.ref m))) (hne:m≠n) (hb:rows.length+rows2.length<=1048576) (hp:allSh rows2) :
 Good P o uid ⟨rx++ry,[(n,.arr te rows false),(m,.arr te rows2 false)],.one (.ref (uid*64)),[(uid*64,.arr te (rows++rows2) false)],[n]⟩:=by
 refine xc2 ho hc ha hty hu hT hx (fun p hp=>xzt _ hp) (by simp [x4]) (by simp) (fun q hq=>by cases hq) hb fun cx st a w pl Z R ht hro=>?_;obtain ⟨h1,h2⟩:=hy cx st a w pl Z R (RdT.append.1 ht).2;have hob:lk st.s m=some (.arr te rows2 false):=(RdO.cons.1 (RdO.cons.1 hro).2).1;obtain ⟨cells,fs,g1,g2,g3,g4,g5,g6⟩:=xcg R hob;obtain ⟨ad,cc,e1,e2,e3,e4⟩:=xaf g1;have h3:a.eval y=pl.hdr m:=h1 te rows2 false hob;refine ⟨ad,cc,cells,List.replicate cells.length [],by rw [h3,e1],g4,e3,e4,g2,by simp,fun k av x f hk hx hf=>?_,fun b hb=>by (rw [jl] at hb; cases hb),by rw [jl]; exact x09⟩;have hf':f=[]:=x1a (xzy hf);subst hf';have hkf:k<fs.length:=by rw [g3]; exact (xzm.1 hx).1
 have h4:=g5 k av x _ hk hx (xzh hkf);obtain ⟨row,hr,hm⟩:=vx hk;generalize fs[k]=f' at h4;rcases hp row hr av hm with ⟨v,rfl⟩|⟨t,r,rfl⟩
 · cases h4 with
   | prim h=>exact .prim h
 · cases h4 with
   | fr0 h=>exact .fr0 h
theorem xkt {c:Call} {x y:Operand} {t te:Nat} {ti:TI} (ho:o.op=.call c) (hc:c.callee=.builtin .append) (ha:c.args.toList=[x,y]) (hty:c.argTypes.toList=[t,t]) (hu:P.underlying t=some (.slice te)) (hT:TIok P te ti)
 {rx ry:List (Nat × TV)} {n:Nat} {ro:List (Nat × Ob)} {rows rows2:List (List AV)} (hx:Ev P x rx (.one (.ref n))) (hy:Ev P y ry (.one (.fr [] te rows2))) (hb:rows.length+rows2.length<=1048576) (hp:frzOk rows2) :
 Good P o uid ⟨rx++ry,(n,.arr te rows false)::ro,.one (.ref (uid*64)),[(uid*64,.arr te (rows++rows2.map (List.map frz)) false)],[n]⟩:=by
 refine xc2 ho hc ha hty hu hT hx (fun p hp=>xzt _ hp) (by simp [x4]) (by simp) (fun q hq=>by cases hq) (by simpa using hb) fun cx st a w pl Z R ht hro=>?_;obtain ⟨h1,h2⟩:=hy cx st a w pl Z R (RdT.append.1 ht).2;have h3:Rd P w (Sup pl Z []) (.sl te rows2) (a.eval y):=h1 (by simp);have h3:Rd P w Z (.sl te rows2) (a.eval y):=h3.mono (fun b hb=>by rcases hb with hb|⟨n,hn,_⟩; exact hb; cases hn) fun _ _=>rfl;obtain ⟨ad,cap,cells,e1,e2,e3,e4,e5,e6,e7⟩:=h3.inv_sl;refine ⟨ad,cap,cells,List.replicate cells.length [],by simpa using e1,by simpa using e4,fun h=>?_,e6,fun row hr=>?_,by simp,fun k av x f hk hx hf=>?_,fun b hb=>by (rw [jl] at hb; cases hb),by rw [jl]; exact x09⟩
 · obtain ⟨b,o,h4,_⟩:=e5 (fun e=>h (by rw [e]; rfl)); exact ⟨b,o,h4⟩
 · obtain ⟨r,hr0,rfl⟩:=xzv.1 hr; simpa using e3 r hr0
 · rw [<- List.map_flatten,xzr,xz0] at hk;obtain ⟨av,hk,rfl⟩:=hk;have h4:=e7 k av x hk hx;obtain ⟨row,hr,hm⟩:=vx hk;have hf':f=[]:=x1a (xzy hf);subst hf';rcases hp row hr av hm with ⟨v,rfl⟩|⟨t,r,rfl⟩|⟨t,r,rfl⟩
   · cases h4 with
     | prim h=>exact .prim h
   · exact .fr0 h4
   · cases h4 with
     | fr h=>exact .fr0 h
theorem xsq {z:Array Value} {s:Nat} (hs:z.size=s) (h0:0<s) (n:Nat):(madeCells z (n*s)).toList=(List.replicate n z.toList).flatten:=by
 apply x2h;intro k;have hw:∀ r∈List.replicate n z.toList,r.length=s:=fun r hr=>by rw [x1a hr]; simpa using hs
 by_cases hk:k<n*s
 · have h1:k / s<n:=(x3b h0).2 hk;have h2:k % s<s:=Nat.mod_lt _ h0;have h3:(List.replicate n z.toList)[k / s]?=some z.toList:=by rw [x2z]; simp [h1]
   have h4:z.toList[k % s]?=some (z[k % s]'(by omega)):=by simp [hs,h2]
   have:=jt hw h3 h4;rw [show k / s*s+k % s=k by rw [Nat.mul_comm]; exact Nat.div_add_mod k s] at this;rw [this];simp [madeCells,hk,hs,getElem!_pos,h2]
 · rw [x1z (by simp [madeCells]; omega),x1z (by rw [zw hw]; simp; omega)]
theorem xig {t e:Nat} {l c:Operand} {ti:TI} (ho:o.op=.makeSlice t l c) (hu:P.underlying t=some (.slice e)) (hT:TIok P e ti) {rl rc:List (Nat × TV)} {k1 k2:IntKind} {n:Int} {row:List AV} {ro:List (Nat × Ob)} (hl:Ev P l rl (.one (.prim (.int k1 n)))) (hc:Ev P c rc (.one (.prim (.int k2 n))))
 (h0:0<=n) (hn:n<=268435456) (hrl:row.length=ti.z.length)
 (hrow:∀ (P:Program) (cx:Cx) (st':St) (a:Act) (w:World) (pl:Pl) (Z:Nat->Prop),Rel P cx st' a w pl Z->RdO ro st'->∀ xs,Ars P st' pl Z w ti.z xs ->
   ∃ fs:List (List Nat),fs.length=row.length/\fs.flatten=[]/\∀ (k:Nat) (av:AV) (x:Value) (f:List Nat),row[k]?=some av->xs[k]?=some x->fs[k]?=some f->Ow P w Z av x f) (hro0:∀ st,RdO ro st) :
 Good P o uid ⟨rl++rc,[],.one (.ref (uid*64)),[(uid*64,.arr e (List.replicate n.toNat row) false)],[]⟩:=by
 intro cx st a w pl Z R ht hro hok K Q hK;obtain ⟨ht1,ht2⟩:=RdT.append.1 ht;obtain ⟨⟨e1,_⟩,_⟩:=hl cx st a w pl Z R ht1;obtain ⟨⟨e2,_⟩,_⟩:=hc cx st a w pl Z R ht2;obtain ⟨i,z,hi,hz,hsz,hzs,hby⟩:=hT.facts;obtain ⟨i',z',hi',hz',hzok,_,_⟩:=hT.zlen;rw [hi] at hi'; cases hi';rw [hz] at hz'; cases hz';obtain ⟨hars,_⟩:=xbl (P:=P) (st:=st) (pl:=pl) (Z:=Z) (w:=w) hzok;obtain ⟨fs,f1,f2,f3⟩:=hrow P cx st a w pl Z R (hro0 st) _ hars;have hbb:(i.bytes:Int)*n<=281474976710656:=by
  have h1:i.bytes*n.toNat<=1048576*268435456:=Nat.mul_le_mul hby (by omega);have h2:(n.toNat:Int)=n:=x19 h0;rw [<- h2,<- Int.natCast_mul]; omega
 have hr:=run_make (P:=P) w t e i z hu hi hz k1 k2 n n h0 (x3p _) hbb (by omega);have hcl:(madeCells z.cells (n.toNat*i.size)).toList=(List.replicate n.toNat z.cells.toList).flatten:=xsq (by rw [hzs,hsz]) (by rw [hsz]; exact hT.pos) _;have hrw:∀ r∈List.replicate n.toNat row,r.length=P.cellsOf e:=fun r hr=>by rw [x1a hr,hrl,hT.zl,hT.cells]
 have hzw:∀ r∈List.replicate n.toNat z.cells.toList,r.length=P.cellsOf e:=fun r hr=>by rw [x1a hr,hT.cells,x02,hzs]
 have hlen:(madeCells z.cells (n.toNat*i.size)).toList.length=n.toNat*P.cellsOf e:=by rw [hcl,zw hzw,x3c]
 have hown:=xi8 (P:=P) (w:=w) (e:=e) (c:=n.toNat) (xs:=(madeCells z.cells (n.toNat*i.size)).toList) hlen (by unfold maxLen; omega);have hpos:0<P.cellsOf e:=by rw [hT.cells]; exact hT.pos
 have hOw:Ow P (w.alloc (.cells (madeCells z.cells (n.toNat*i.size)).toList.toArray e)) Z (.sl e (List.replicate n.toNat row)) (.slice (some ⟨w.heap.size,0,none⟩) n.toNat n.toNat) (w.heap.size::[]):=by
  have:=Ow.sl (P:=P) (Z:=Z) (t:=e) (rows:=List.replicate n.toNat row) (cells:=(madeCells z.cells (n.toNat*i.size)).toList) (fs:=List.replicate (n.toNat*P.cellsOf e) []) (v:=.slice (some ⟨w.heap.size,0,none⟩) n.toNat n.toNat) (by rw [x3c]; omega) hrw (by rw [x3c]; exact hown) (by rw [hlen]; simp) fun k av x f hk hx hf=>by
   have hf':f=[]:=x1a (xzy hf);subst hf';have hkl:k<n.toNat*P.cellsOf e:=by rw [<- hlen]; exact (xzm.1 hx).1
   have h1:k / P.cellsOf e<n.toNat:=(x3b hpos).2 hkl;have h2:k % P.cellsOf e<P.cellsOf e:=Nat.mod_lt _ hpos;have hke:k / P.cellsOf e*P.cellsOf e+k % P.cellsOf e=k:=by rw [Nat.mul_comm]; exact Nat.div_add_mod k _
   have h3:(List.replicate n.toNat row)[k / P.cellsOf e]?=some row:=by rw [x2z]; simp [h1]
   have h4:(List.replicate n.toNat z.cells.toList)[k / P.cellsOf e]?=some z.cells.toList:=by rw [x2z]; simp [h1]
   have hr2:k % P.cellsOf e<row.length:=by rw [hrl,hT.zl,<- hT.cells]; exact h2
   have hz2:k % P.cellsOf e<z.cells.toList.length:=by rw [x02,hzs,<- hT.cells]; exact h2
   have g1:=jt hrw h3 (xzh hr2);have g2:=jt hzw h4 (xzh hz2);rw [hke] at g1 g2;rw [hcl,g2] at hx;rw [g1] at hk;cases hk; cases hx;have h5:=f3 _ _ _ _ (xzh hr2) (xzh hz2) (xzh (by omega));have h6:fs[k % P.cellsOf e]'(by omega)=[]:=by
    have:∀ l∈fs,l=[]:=fun l hl=>by
     cases l with
     | nil=>rfl
     | cons b r=>exact absurd (x08.2 ⟨_,hl,xz5 ..⟩:b∈fs.flatten) (by rw [f2]; exact x0o)
    exact this _ (x0m _)
   rw [h6] at h5;exact h5.mono (fun _ h=>h) (fun b hb=>(Chg.alloc w _ (fun _=>False)).blk b (R.zlt b hb).1 (fun h=>h)) (fun b hb=>by cases hb)
  rw [jl] at this;simpa [Value.ownBlock] using this
 obtain ⟨pl',S⟩:=newarr R (dst:=o.dst) hok (fun m hm=>by cases hm) (Chg.alloc w _ _) hOw (by simp) (fun b hb=>.inl (by simp at hb; omega));have hrun:(execOp a.eval o).run P w=.ok (.value (.slice (some ⟨w.heap.size,0,none⟩) n.toNat n.toNat)) (w.alloc (.cells (madeCells z.cells (n.toNat*i.size)).toList.toArray e)):=by
  simp [execOp,ho,e1,e2,hr]
 unfold Oper.wp;rw [hrun];exact hK _ _ _ _ S
end
end Go.AM
end
section
namespace Go.AM
open Go
def Bd (o:Option Value) (d n:Int):Prop:=(o=none/\n=d)\/∃ k,o=some (.int k n)
theorem xg6 {P:Program} {w:World} {b:Bool} {len cap:Nat} {lo hi:Option Value} {l h:Int} (hlo:Bd lo 0 l) (hhi:Bd hi len h) (h0:0<=l) (h1:l<=h) (h2:h<=len) (h3:len<=cap) :
 (Instr.sliceBounds b len cap lo hi none).run P w=.ok (l.toNat,h.toNat,cap) w:=by
 have g1:∀ (k:IntKind) (code:BoundsCode),(Instr.sliceBound (.int k h) cap code).run P w=.ok h.toNat w:=by
  intro k code;have:0<=h/\h<=(cap:Int):=by omega
  simp [Instr.sliceBound,asIntOf,this]
 have g2:∀ (k:IntKind) (code:BoundsCode),(Instr.sliceBound (.int k l) h.toNat code).run P w=.ok l.toNat w:=by
  intro k code;have:0<=l/\l<=(h.toNat:Int):=by omega
  simp only [Instr.sliceBound,asIntOf,Sem.run_bind,Sem.run_pure,Result.andThen_ok,this,and_self,if_true]
 have g3:∀ (k:IntKind) (code:BoundsCode),h=(len:Int)->(Instr.sliceBound (.int k l) len code).run P w=.ok l.toNat w:=by
  intro k code e;have:=g2 k code;rw [e] at this; simpa using this
 rcases hlo with ⟨rfl,rfl⟩|⟨k,rfl⟩<;>rcases hhi with ⟨rfl,rfl⟩|⟨k',rfl⟩
 · simp [Instr.sliceBounds]
 · simp [Instr.sliceBounds,g1]
 · simp [Instr.sliceBounds,g3]
 · simp [Instr.sliceBounds,g1,g2]
section
variable {P:Program} {o:Oper} {uid:Nat}
def EvD (P:Program) (x:Option Operand) (rt:List (Nat × TV)) (d n:Int):Prop:=(x=none/\n=d)\/∃ y k,x=some y/\Ev P y rt (.one (.prim (.int k n)))
theorem EvD.bd {x:Option Operand} {rt:List (Nat × TV)} {d n:Int} (h:EvD P x rt d n) {cx:Cx} {st:St} {a:Act} {w:World} {pl:Pl} {Z:Nat->Prop} (R:Rel P cx st a w pl Z) (ht:RdT rt st):Bd (x.map a.eval) d n:=by
 rcases h with ⟨rfl,rfl⟩|⟨y,k,rfl,he⟩
 · exact .inl ⟨rfl,rfl⟩
 · obtain ⟨⟨h1,_⟩,_⟩:=he cx st a w pl Z R ht;exact .inr ⟨k,by simp [h1]⟩
theorem xnc {t:Nat} {x:Operand} {lo hi:Option Operand} (ho:o.op=.slice t x lo hi none) (hu:P.underlying t=some .string) {rx rl rh:List (Nat × TV)} {s:ByteArray} {l h:Int} (hx:Ev P x rx (.one (.prim (.string s)))) (hlo:EvD P lo rl 0 l) (hhi:EvD P hi rh s.size h)
 (h0:0<=l) (h1:l<=h) (h2:h<=s.size):Good P o uid ⟨rx++rl++rh,[],.one (.prim (.string (s.extract l.toNat h.toNat))),[],[]⟩ :=
 Good.value fun cx st a w pl Z R ht hro=>by
  obtain ⟨ht1,ht3⟩:=RdT.append.1 ht;obtain ⟨ht1,ht2⟩:=RdT.append.1 ht1;obtain ⟨⟨e1,_⟩,_⟩:=hx cx st a w pl Z R ht1;have hb:=xg6 (P:=P) (w:=w) (b:=false) (cap:=s.size) (hlo.bd R ht2) (hhi.bd R ht3) h0 h1 h2 (x0r _);exact ⟨_,by simp [execOp,ho,e1,Instr.sliceAt,Instr.slice,run_underlying hu,hb],⟨rfl,rfl⟩,rfl⟩
theorem xag {t e:Nat} {ti:TI} {w:World} (hu:P.underlying t=some (.slice e)) (hT:TIok P e ti) {ad:Option Addr} {len cap:Nat} {lo hi:Option Value} {l h:Int} (hlo:Bd lo 0 l) (hhi:Bd hi len h) (h0:0<=l) (h1:l<=h) (h2:h<=len) (h3:len<=cap) :
 (Instr.sliceAt t (.slice ad len cap) lo hi none).run P w=.ok (.slice (if cap=l.toNat then ad else ad.map (·.add (l.toNat*P.cellsOf e))) (h.toNat - l.toNat) (cap - l.toNat)) w:=by
 have hb:=xg6 (P:=P) (w:=w) (b:=true) hlo hhi h0 h1 h2 h3;have hs:=hT.size (P:=P) w;rw [hT.cells];simp [Instr.sliceAt,Instr.slice,run_underlying hu,hb,hs]
theorem xku {rows:List (List AV)} {m l h k:Nat} {av:AV} (hw:∀ r∈rows,r.length=m) (hk:((rows.take h).drop l).flatten[k]?=some av):rows.flatten[l*m+k]?=some av/\k<(h - l)*m:=by
 have hw':∀ r∈(rows.take h).drop l,r.length=m:=fun r hr=>hw r (x0u (x1n hr));have hlen:=zw hw';have hkl:k<((rows.take h).drop l).length*m:=by rw [<- hlen]; exact (xzm.1 hk).1
 have hm:0<m:=by
  rcases Nat.eq_zero_or_pos m with h0|h0
  · subst h0; simp at hkl
  · exact h0
 have h1:k / m<((rows.take h).drop l).length:=(x3b hm).2 hkl;have hke:k / m*m+k % m=k:=by rw [Nat.mul_comm]; exact Nat.div_add_mod k m
 have hr0:(((rows.take h).drop l)[k / m]).length=m:=hw' _ (x0m h1);have h2:k % m<(((rows.take h).drop l)[k / m]).length:=by rw [hr0]; exact Nat.mod_lt _ hm
 have g1:=jt hw' (xzh h1) (xzh h2);rw [hke,hk] at g1;have hidx:rows[l+k / m]?=some (((rows.take h).drop l)[k / m]):=by
  have:=xzh h1;rw [x0p,xz7] at this
  split at this
  · exact this
  · cases this
 have g2:=jt hw hidx (xzh h2);rw [x3o,x1m,hke] at g2;refine ⟨by rw [g2,g1],?_⟩;have:((rows.take h).drop l).length<=h - l:=by simp; omega
 exact x1c hkl (x0b m this)
theorem Rd.cut {w:World} {S:Nat->Prop} {t:Nat} {rows:List (List AV)} {ad:Option Addr} {cap l h:Nat} (H:Rd P w S (.sl t rows) (.slice ad rows.length cap)) (h1:l<=h) (h2:h<=rows.length) :
 Rd P w S (.sl t ((rows.take h).drop l)) (.slice (if cap=l then ad else ad.map (·.add (l*P.cellsOf t))) (h - l) (cap - l)):=by
 obtain ⟨ad',cap',cells,e1,e2,e3,e4,e5,e6,e7⟩:=H.inv_sl;simp only [Value.slice.injEq,true_and] at e1;obtain ⟨rfl,rfl⟩:=e1;have hlen:((rows.take h).drop l).length=h - l:=by simp; omega
 have hmul:h*P.cellsOf t<=rows.length*P.cellsOf t:=x0b _ h2;have hsub:(h - l)*P.cellsOf t=h*P.cellsOf t - l*P.cellsOf t:=Nat.sub_mul ..;have hlm:l*P.cellsOf t<=h*P.cellsOf t:=x0b _ h1;refine .sl (cells:=(cells.drop (l*P.cellsOf t)).take ((h - l)*P.cellsOf t)) (by rw [hlen]; have:=H.max; omega) hlen.symm (by omega) (fun r hr=>e3 r (x0u (x1n hr))) (by rw [hlen]; simp [e4]; omega) (fun hne=>?_) (fun b o k x hb hx=>?_) fun k av x hk hx=>?_
 · have hc:cap≠l:=by
    intro e;exact hne (x0k (by rw [hlen]; omega))
   obtain ⟨b,o,e,hS⟩:=e5 (by intro e; subst e; simp at hne);exact ⟨b,o+l*P.cellsOf t,by rw [if_neg hc,e]; simp [qb],hS⟩
 · obtain ⟨hk,hx'⟩:=zi hx
   split at hb
   · rename_i hc;exfalso;have:h - l=0:=by omega
     rw [this] at hk; omega
   · cases ad with
     | none=>cases hb
     | some a0 =>
       have hne:rows≠[]:=by intro e; subst e; simp at h2; subst h2; simp at hk
       obtain ⟨b',o',e,hS⟩:=e5 hne;cases e;simp [qb] at hb;obtain ⟨rfl,rfl⟩:=hb;rw [x1m];exact e6 b' o' _ x rfl hx'
 · obtain ⟨_,hx'⟩:=zi hx;obtain ⟨hk',_⟩:=xku e3 hk;exact e7 _ av x hk' hx'
theorem xnd {t e:Nat} {ti:TI} {x:Operand} {lo hi:Option Operand} (ho:o.op=.slice t x lo hi none) (hu:P.underlying t=some (.slice e)) (hT:TIok P e ti) {rx rl rh:List (Nat × TV)} {ro:List (Nat × Ob)} {ns:List Nat} {rows:List (List AV)} {l h:Int}
 (hx:Ev P x rx (.one (.fr ns e rows))) (hal:∀ st',RdO ro st'->∀ n∈ns,st'.has n) (hlo:EvD P lo rl 0 l) (hhi:EvD P hi rh rows.length h) (h0:0<=l) (h1:l<=h) (h2:h<=rows.length) :
 Good P o uid ⟨rx++rl++rh,ro,.one (.fr ns e ((rows.take h.toNat).drop l.toNat)),[],[]⟩ :=
 Good.value fun cx st a w pl Z R ht hro=>by
  obtain ⟨ht1,ht3⟩:=RdT.append.1 ht;obtain ⟨ht1,ht2⟩:=RdT.append.1 ht1;obtain ⟨e1,e2⟩:=hx cx st a w pl Z R ht1;have h3:Rd P w (Sup pl Z ns) (.sl e rows) (a.eval x):=e1 (hal st hro);obtain ⟨ad,cap,g1,g2⟩:=xbn h3;rw [g1] at h3;have hr:=xag (w:=w) hu hT (ad:=ad) (hlo.bd R ht2) (hhi.bd R ht3) h0 h1 h2 g2;exact ⟨_,by simp [execOp,ho,g1,hr],fun _=>h3.cut (by omega) (by omega),e2⟩
theorem Rd.less {w:World} {S:Nat->Prop} {t:Nat} {rows:List (List AV)} {ad:Option Addr} {cap:Nat} (H:Rd P w S (.sl t rows) (.slice ad rows.length cap)):Rd P w S (.sl t rows) (.slice ad rows.length rows.length):=by
 obtain ⟨ad',cap',cells,e1,e2,e3,e4,e5,e6,e7⟩:=H.inv_sl;simp only [Value.slice.injEq,true_and] at e1;obtain ⟨rfl,rfl⟩:=e1;exact .sl (cells:=cells) H.max rfl (x0r _) e3 e4 e5 e6 e7
theorem xne {w:World} {len cap:Nat} {lo:Option Value} {l h:Int} {k k3:IntKind} (hlo:Bd lo 0 l) (h0:0<=l) (h1:l<=h) (h2:h<=len) (h3:len<=cap) :
 (Instr.sliceBounds true len cap lo (some (.int k h)) (some (.int k3 len))).run P w=.ok (l.toNat,h.toNat,len) w:=by
 have g0:∀ (code:BoundsCode),(Instr.sliceBound (.int k3 len) cap code).run P w=.ok len w:=by
  intro code;have:(0:Int)<=len/\(len:Int)<=cap:=by omega
  simp [Instr.sliceBound,asIntOf,this]
 have g1:∀ (code:BoundsCode),(Instr.sliceBound (.int k h) len code).run P w=.ok h.toNat w:=by
  intro code;have:0<=h/\h<=(len:Int):=by omega
  simp [Instr.sliceBound,asIntOf,this]
 have g2:∀ (k:IntKind) (code:BoundsCode),(Instr.sliceBound (.int k l) h.toNat code).run P w=.ok l.toNat w:=by
  intro k code;have:0<=l/\l<=(h.toNat:Int):=by omega
  simp only [Instr.sliceBound,asIntOf,Sem.run_bind,Sem.run_pure,Result.andThen_ok,this,and_self,if_true]
 rcases hlo with ⟨rfl,rfl⟩|⟨k,rfl⟩
 · simp [Instr.sliceBounds,g0,g1]
 · simp [Instr.sliceBounds,g0,g1,g2]
theorem xnf {t e:Nat} {ti:TI} {x y z:Operand} {lo:Option Operand} (ho:o.op=.slice t x lo (some y) (some z)) (hu:P.underlying t=some (.slice e)) (hT:TIok P e ti) {rx rl rh rm:List (Nat × TV)} {ro:List (Nat × Ob)} {ns:List Nat} {rows:List (List AV)} {l h:Int} {k k3:IntKind}
 (hx:Ev P x rx (.one (.fr ns e rows))) (hal:∀ st',RdO ro st'->∀ n∈ns,st'.has n) (hlo:EvD P lo rl 0 l) (hy:Ev P y rh (.one (.prim (.int k h)))) (hz:Ev P z rm (.one (.prim (.int k3 rows.length)))) (h0:0<=l) (h1:l<=h) (h2:h<=rows.length) :
 Good P o uid ⟨rx++rl++rh++rm,ro,.one (.fr ns e ((rows.take h.toNat).drop l.toNat)),[],[]⟩ :=
 Good.value fun cx st a w pl Z R ht hro=>by
  obtain ⟨ht1,ht4⟩:=RdT.append.1 ht;obtain ⟨ht1,ht3⟩:=RdT.append.1 ht1;obtain ⟨ht1,ht2⟩:=RdT.append.1 ht1;obtain ⟨e1,e2⟩:=hx cx st a w pl Z R ht1;obtain ⟨⟨y1,_⟩,_⟩:=hy cx st a w pl Z R ht3;obtain ⟨⟨z1,_⟩,_⟩:=hz cx st a w pl Z R ht4;have h3:Rd P w (Sup pl Z ns) (.sl e rows) (a.eval x):=e1 (hal st hro);obtain ⟨ad,cap,g1,g2⟩:=xbn h3;rw [g1] at h3;have hb:=xne (P:=P) (w:=w) (k:=k) (k3:=k3) (hlo.bd R ht2) h0 h1 h2 g2;have hs:=hT.size (P:=P) w;exact ⟨.slice (if rows.length=l.toNat then ad else ad.map (·.add (l.toNat*P.cellsOf e))) (h.toNat - l.toNat) (rows.length - l.toNat),by rw [hT.cells]; simp [execOp,ho,g1,y1,z1,Instr.sliceAt,Instr.slice,run_underlying hu,hb,hs],fun _=>h3.less.cut (by omega) (by omega),e2⟩
theorem xng {t e:Nat} {ti:TI} {x:Operand} {lo hi:Option Operand} (ho:o.op=.slice t x lo hi none) (hu:P.underlying t=some (.slice e)) (hT:TIok P e ti) {rx rl rh:List (Nat × TV)} {n:Nat} {p:Bool} {rows:List (List AV)} {l h:Int}
 (hx:Ev P x rx (.one (.ref n))) (hlo:EvD P lo rl 0 l) (hhi:EvD P hi rh rows.length h) (h0:0<=l) (h1:l<=h) (h2:h<=rows.length) :
 Good P o uid ⟨rx++rl++rh,[(n,.arr e rows p)],.one (.fr [n] e ((rows.take h.toNat).drop l.toNat)),[],[]⟩ :=
 Good.value fun cx st a w pl Z R ht hro=>by
  obtain ⟨ht1,ht3⟩:=RdT.append.1 ht;obtain ⟨ht1,ht2⟩:=RdT.append.1 ht1;obtain ⟨e1,e2⟩:=hx cx st a w pl Z R ht1;have hob:=(RdO.cons.1 hro).1;have h3:a.eval x=pl.hdr n:=e1 e rows p hob;have how:Ow P w Z (.sl e rows) (pl.hdr n) (pl.own n):=R.obj n _ hob;have h4:Rd P w (Sup pl Z [n]) (.sl e rows) (pl.hdr n):=how.rd (fun b hb=>.inr ⟨n,by simp,hb⟩) fun b hb=>.inl hb;obtain ⟨ad,cap,g1,g2⟩:=xbn h4;rw [g1] at h4;have hr:=xag (w:=w) hu hT (ad:=ad) (hlo.bd R ht2) (hhi.bd R ht3) h0 h1 h2 g2;exact ⟨_,by simp [execOp,ho,h3,g1,hr],fun _=>h4.cut (by omega) (by omega),by simpa [TV.inU,AV.inU] using e2⟩
theorem xnh {t e:Nat} {ti:TI} {x:Operand} {lo hi:Option Operand} (ho:o.op=.slice t x lo hi none) (hu:P.underlying t=some (.slice e)) (hT:TIok P e ti) {rx rl rh:List (Nat × TV)} {n:Nat} {rows:List (List AV)} {h:Int}
 (hx:Ev P x rx (.one (.ref n))) (hlo:EvD P lo rl 0 0) (hhi:EvD P hi rh rows.length h) (h1:0<=h) (h2:h<=rows.length) :
 Good P o uid ⟨rx++rl++rh,[(n,.arr e rows false)],.one (.ref (uid*64)),[(uid*64,.arr e (rows.take h.toNat) false)],[n]⟩:=by
 intro cx st a w pl Z R ht hro hok K Q hK;obtain ⟨ht1,ht3⟩:=RdT.append.1 ht;obtain ⟨ht1,ht2⟩:=RdT.append.1 ht1;obtain ⟨e1,e2⟩:=hx cx st a w pl Z R ht1;have hob:=(RdO.cons.1 hro).1;have h3:a.eval x=pl.hdr n:=e1 e rows false hob;obtain ⟨cells,fs,g1,g2,g3,g4,g5,g6⟩:=xcg R hob;have hn:st.has n:=by unfold St.has St.O; rw [hob]; rfl
 have hmul:h.toNat*P.cellsOf e<=rows.length*P.cellsOf e:=x0b _ (by omega);have key:∃ v',(Instr.sliceAt t (pl.hdr n) (lo.map a.eval) (hi.map a.eval) none).run P w=.ok v' w/\w.ownsRow 0 e (P.cellsOf e) v' h.toNat (cells.take (h.toNat*P.cellsOf e))/\v'.ownBlock=(pl.hdr n).ownBlock:=by
  rcases g1.2 with ⟨hv,hl0⟩|⟨g,cap,cur,hv,hb,hg,hc,hm,hsz,htake⟩
  · have hr:=xag (w:=w) hu hT (ad:=none) (cap:=0) (hlo.bd R ht2) (hhi.bd R ht3) (x3p 0) h1 h2 (by omega);have hh:h.toNat=0:=by omega
    rw [hl0] at hr;refine ⟨_,by rw [hv]; exact hr,?_⟩;rw [hh,hv];exact ⟨by simpa using World.ownsRow_nil w 0 e _,by simp [Value.ownBlock]⟩
  · have hr:=xag (w:=w) hu hT (ad:=some ⟨g,0,none⟩) (cap:=cap) (hlo.bd R ht2) (hhi.bd R ht3) (x3p 0) h1 h2 hc;have hv':(Value.slice (if cap=(0:Int).toNat then some ⟨g,0,none⟩ else (some (⟨g,0,none⟩:Addr)).map (·.add ((0:Int).toNat*P.cellsOf e))) (h.toNat - (0:Int).toNat) (cap - (0:Int).toNat))=.slice (some ⟨g,0,none⟩) h.toNat cap:=by
     simp [qb]
    rw [hv'] at hr;refine ⟨_,by rw [hv]; exact hr,⟨by rw [xz3,g4,x1k hmul],.inr ⟨g,cap,cur,rfl,hb,hg,by omega,hm,hsz,?_⟩⟩,by rw [hv]; rfl⟩;rw [<- htake,List.take_take,x1k hmul]
 obtain ⟨v',hr,k1,k2⟩:=key;have hw':∀ row∈rows.take h.toNat,row.length=P.cellsOf e:=fun row hr=>g2 row (x0u hr);have hlt:(rows.take h.toNat).length=h.toNat:=by simp; omega
 have hOw:Ow P w Z (.sl e (rows.take h.toNat)) v' (v'.ownBlock.toList++(fs.take (h.toNat*P.cellsOf e)).flatten):=by
  refine Ow.sl (cells:=cells.take (h.toNat*P.cellsOf e)) (by rw [hlt]; have:=Ow.max (R.obj n _ hob); omega) hw' (by rw [hlt]; exact k1) (by simp [g3]) fun k av y f hk hy hf=>?_;have hk':=(xku (l:=0) g2 (by simpa using hk)).1;rw [xz7] at hy hf
  split at hy
  · rename_i hkl;rw [if_pos hkl] at hf;exact g5 k av y f (by simpa using hk') hy hf
  · cases hy
 have hsubl:List.Sublist (v'.ownBlock.toList++(fs.take (h.toNat*P.cellsOf e)).flatten) (pl.own n):=by
  rw [g6,k2];refine x2q (x20 _) ?_
  conv=>rhs; rw [<- x10 (h.toNat*P.cellsOf e) fs,x07]
  exact List.sublist_append_left _ _
 obtain ⟨pl',S⟩:=newarr R (dst:=o.dst) hok (fun m hm=>by rw [xzq.1 hm]; exact ⟨e,rows,false,hob⟩) (Chg.refl w _) hOw (hsubl.nodup (R.nd n hn)) fun b hb=>.inr ⟨n,by simp,hsubl.subset hb⟩;have hrun:(execOp a.eval o).run P w=.ok (.value v') w:=by simp [execOp,ho,h3,hr]
 unfold Oper.wp;rw [hrun];exact hK _ _ _ _ S
theorem xsr {c:Call} {x:Operand} {t:Nat} (ho:o.op=.call c) (hc:c.callee=.builtin .len) (ha:c.args.toList=[x]) (hty:c.argTypes.toList=[t]) (hu:P.underlying t=some .string) {rx:List (Nat × TV)} {s:ByteArray} (hx:Ev P x rx (.one (.prim (.string s)))) :
 Good P o uid ⟨rx,[],.one (.prim (.int .i64 s.size)),[],[]⟩ :=
 Good.value fun cx st a w pl Z R ht hro=>by
  obtain ⟨⟨e1,_⟩,_⟩:=hx cx st a w pl Z R ht;have hargs:c.args.map a.eval=#[.string s]:=by apply x3f; simp [ha,e1]
  have hts:c.argTypes=#[t]:=by apply x3f; simp [hty]
  refine ⟨.int .i64 s.size,jk ho hc ?_,⟨rfl,rfl⟩,rfl⟩;rw [hargs,hts];simp [builtin,Builtin.len_,run_underlying hu,goInt]
theorem xd8 {c:Call} {x:Operand} {t e:Nat} (ho:o.op=.call c) (hc:c.callee=.builtin .len) (ha:c.args.toList=[x]) (hty:c.argTypes.toList=[t]) (hu:P.underlying t=some (.slice e)) {rx:List (Nat × TV)} {ro:List (Nat × Ob)} {v:TV} {n:Nat} (hx:Ev P x rx v)
 (hv:∀ (cx:Cx) (st:St) (a:Act) (w:World) (pl:Pl) (Z:Nat->Prop),Rel P cx st a w pl Z->RdO ro st->∀ y,Tr P st pl Z w v y->∃ ad cap,y=.slice ad n cap) :
 Good P o uid ⟨rx,ro,.one (.prim (.int .i64 n)),[],[]⟩ :=
 Good.value fun cx st a w pl Z R ht hro=>by
  obtain ⟨e1,_⟩:=hx cx st a w pl Z R ht;obtain ⟨ad,cap,e2⟩:=hv cx st a w pl Z R hro _ e1;have hargs:c.args.map a.eval=#[.slice ad n cap]:=by apply x3f; simp [ha,e2]
  have hts:c.argTypes=#[t]:=by apply x3f; simp [hty]
  refine ⟨.int .i64 n,jk ho hc ?_,⟨rfl,rfl⟩,rfl⟩;rw [hargs,hts];have:=xw2 (P:=P) (o:=o) (w:=w) (c:=c) hu ad n cap;simp [builtin,this]
theorem xg7 (l:List UInt8):(bytesRows l).flatten=l.map fun b=>AV.prim (.int .u8 b.toNat):=by
 induction l with
 | nil=>rfl
 | cons b r ih=>simp only [bytesRows,x0d,x01] at ih ⊢; rw [ih]; rfl
theorem xqc {src dst e:Nat} {x:Operand} (ho:o.op=.convert src dst x) (hs:P.underlying src=some (.slice e)) (he:P.underlying e=some (.int .u8)) (hd:P.underlying dst=some .string) {rx:List (Nat × TV)} {n t:Nat} {p:Bool} {l:List UInt8} (hx:Ev P x rx (.one (.ref n))) :
 Good P o uid ⟨rx,[(n,.arr t (bytesRows l) p)],.one (.prim (.string ⟨l.toArray⟩)),[],[]⟩ :=
 Good.value fun cx st a w pl Z R ht hro=>by
  obtain ⟨e1,_⟩:=hx cx st a w pl Z R ht;have hob:=(RdO.cons.1 hro).1;have h3:a.eval x=pl.hdr n:=e1 t _ p hob;obtain ⟨cells,fs,g1,g2,g3,g4,g5,g6⟩:=xcg R hob;obtain ⟨ad,cap,k1,k2,k3,k4⟩:=xaf g1;refine ⟨_,?_,⟨rfl,rfl⟩,rfl⟩;have hlen:(bytesRows l).length=l.length:=by simp [bytesRows]
  rw [hlen] at k1 k3
  suffices h:(convert src dst (pl.hdr n)).run P w=.ok (.string ⟨l.toArray⟩) w by simp [execOp,ho,h3,h]
  rw [k1]
  cases l with
  | nil =>
    rw [run_convert_bytes_string w src dst e ad _ cap hs he hd]
    cases ad with
    | none=>simp [Conv.bytesToString]; rfl
    | some a =>
      have:=run_bytesToString (P:=P) w a 0 cap [] (by simp [loadCells,loadCellsFrom]);simp only [List.foldl_nil] at this;exact this
  | cons b0 r =>
    obtain ⟨b,o',rfl⟩:=k3 (by simp);refine run_convert_bytes_back w src dst e _ cap (b0::r) hs he hd fun j hj=>?_;rw [qb];have hf:=xg7 (b0::r);have hw1:P.cellsOf t=1:=(g2 [.prim (.int .u8 b0.toNat)] (by simp [bytesRows])).symm;have hcl:cells.length=(b0::r).length:=by rw [g4,hlen,hw1,Nat.mul_one]
    have hj1:j<cells.length:=by omega
    have hj2:(bytesRows (b0::r)).flatten[j]?=some (AV.prim (.int .u8 ((b0::r)[j]).toNat)):=by rw [hf,xzr,xzh hj]; rfl
    have hj3:j<fs.length:=by omega
    have:=g5 j _ _ _ hj2 (xzh hj1) (xzh hj3);generalize fs[j]=f0 at this;generalize hy:cells[j]=y at this
    cases this with
    | prim _=>exact k4 b o' j _ rfl (by rw [xzh hj1,hy])
theorem xj6 {f:Nat} {caps:Array Operand} (ho:o.op=.makeFunc (.func f) #[] caps) {rt:List (Nat × TV)} {cs:List AV} (hl:cs.length=caps.size)
 (hx:∀ (j:Nat) (x:Operand) (c:AV),caps[j]?=some x->cs[j]?=some c->(∃ n i off,c=.ptr n i off)/\∃ rt',Ev P x rt' (.one c)/\∀ p∈rt',p∈rt) :
 Good P o uid ⟨rt,[],.one (.fn f cs),[],[]⟩ :=
 Good.value fun cx st a w pl Z R ht hro=>by
  have hev:∀ (j:Nat) (x:Operand) (c:AV),caps[j]?=some x->cs[j]?=some c->A0 P st pl Z w c (a.eval x)/\c.inU st.u=true/\∃ n i off,c=.ptr n i off:=by
   intro j x c h1 h2;obtain ⟨⟨n,i,off,rfl⟩,rt',he,hsub⟩:=hx j x c h1 h2;obtain ⟨h3,h4⟩:=he cx st a w pl Z R fun p hp=>ht p (hsub p hp);exact ⟨h3,h4,n,i,off,rfl⟩
  refine ⟨.func (.func f) #[] (caps.map a.eval),by simp [execOp,ho,Instr.makeFunc],⟨(caps.map a.eval).toList,by rw [x1s],by simp [hl],fun k av y hk hy=>?_⟩,?_⟩
  · simp only [x28,xzr,xz0] at hy;obtain ⟨x,hx',rfl⟩:=hy;exact (hev k x av (by simpa using hx') hk).1
  · simp only [TV.inU,AV.inU];refine xzl.2 fun c hc=>?_;obtain ⟨j,hj,rfl⟩:=x0h.1 hc;obtain ⟨_,h2,n,i,off,h3⟩:=hev j _ _ (x2r (by omega)) (xzh hj);rw [h3] at h2 ⊢;exact h2
end
end Go.AM
end
section
namespace Go.AM
open Go
theorem xqd {st:St} {v:TV} {k:List (Nat × Ob)->Prop} (h:oneC st v k):∃ ro,k ro/\RdO ro st /\
 ∀ (P:Program) (cx:Cx) (st':St) (a:Act) (w:World) (pl:Pl) (Z:Nat->Prop),Rel P cx st' a w pl Z->RdO ro st'->∀ x,Tr P st' pl Z w v x->Ars P st' pl Z w (tvCells v) x.cells.toList:=by
 cases v with
 | one b =>
   obtain ⟨ro,h1,h2,h3⟩:=xae (cs:=[b]) h;refine ⟨ro,h1,h2,fun P cx st' a w pl Z R hr x hx=>?_⟩;rw [xd7 (h3 P cx st' a w pl Z R hr b (by simp) x hx)];refine ⟨rfl,fun k av y hk hy=>?_⟩
   cases k with
   | zero=>simp [tvCells] at hk hy; subst hk; subst hy; exact hx
   | succ k=>simp [tvCells] at hk
 | agg cs=>exact ⟨[],h,RdO.nil,fun P cx st' a w pl Z R hr x hx=>by obtain ⟨xs,rfl,h3⟩:=hx; exact h3⟩
 | tup vs=>exact h.elim
theorem xst {u:List Nat} {v:TV} (h:v.inU u=true):(tvCells v).all (AV.inU u)=true:=by
 cases v with
 | one v=>simpa [tvCells,TV.inU] using h
 | agg cs=>exact h
 | tup vs=>rfl
theorem xah {row cs:List AV} {off k:Nat} (h:off+cs.length<=row.length):(splice row off cs)[k]?=if off<=k/\k<off+cs.length then cs[k - off]? else row[k]?:=by
 simp only [splice,yb,yc,x0c];by_cases h1:k<off
 · rw [x0a (by simp; omega),xz7,if_pos h1,if_neg (by omega)]
 · rw [xz8 (by simp; omega)];have e:(row.take off).length=off:=by simp; omega
   rw [e];by_cases h2:k<off+cs.length
   · rw [x0a (by omega),if_pos ⟨by omega,h2⟩]
   · rw [xz8 (by omega),x0p,if_neg (by omega)];congr 1; omega
theorem km {row cs:List AV} {off:Nat} (h:off+cs.length<=row.length):(splice row off cs).length=row.length:=by
 simp only [splice,yb,yc,xzu,xz3,List.length_drop]; omega
theorem xg8 {row cs:List AV} {off:Nat} {a:AV} (h:a∈splice row off cs):a∈row\/a∈cs:=by
 simp only [splice,yb,yc,x0c,xzs] at h;rcases h with h|h|h
 · exact .inl (x0u h)
 · exact .inr h
 · exact .inl (x1n h)
section
variable {P:Program}
theorem xg9 {w:World}:∀ {fs:List (Nat × Nat)} {l:List Field},fsOk P fs l=true ->
 (l.mapM (fun f=>do pure (f.offset,<- sizeOf f.type)):Go.Sem _).run P w=.ok (l.map fun f=>(f.offset,P.cellsOf f.type)) w
 | [],[],_=>by simp
 | [],_::_,h=>by cases h
 | (o,t)::r,[],h=>by cases h
 |
  (o,t)::r,f::l,h=>by
  simp only [fsOk,xzj] at h;have ih:=xg9 (w:=w) h.2;obtain ⟨i,hi⟩:=x0n.1 h.1.2;simp [List.mapM_cons,sizeOf,typeInfo,hi,Program.cellsOf] at ih ⊢;rw [ih]; rfl
theorem xqe {fs:List (Nat × Nat)} {l:List Field} {k o t:Nat} (h:fsOk P fs l=true) (hf:fieldOf fs k=some (o,t)):(l.map fun f=>(f.offset,P.cellsOf f.type))[k]?=some (o,P.cellsOf t):=by
 obtain ⟨f,h1,h2,h3,_⟩:=xbm h hf;rw [xzr,h1]; simp [h2,h3]
theorem xsu {st:St} {pl:Pl} {Z:Nat->Prop} {w:World} {cs ds:List AV} {cells vs:Array Value} {off:Nat} (h:Ars P st pl Z w cs cells.toList) (hv:Ars P st pl Z w ds vs.toList) (hl:off+ds.length<=cs.length) :
 Ars P st pl Z w (splice cs off ds) (vs.zipIdx.foldl (fun cs (c,j)=>cs.setIfInBounds (off+j) c) cells).toList:=by
 have hvl:vs.size=ds.length:=by have:=hv.1; simpa using this
 have hcl:cells.size=cs.length:=by have:=h.1; simpa using this
 obtain ⟨g1,g2⟩:=Great.foldl_set off vs.toList 0 cells;have e:(vs.zipIdx.foldl (fun cs (c,j)=>cs.setIfInBounds (off+j) c) cells)=((vs.toList.zipIdx 0).foldl (fun cs (x:Value × Nat)=>cs.setIfInBounds (off+x.2) x.1) cells):=by
  rw [<- Array.foldl_toList,Array.toList_zipIdx]
 rw [e];refine ⟨by rw [km hl,x02,g1,hcl],fun k av y hk hy=>?_⟩;rw [xah hl] at hk;rw [x0w,g2 k] at hy;simp only [x31,x02,hvl] at hy;by_cases hin:off<=k/\k<off+ds.length
 · rw [if_pos hin] at hk;rw [if_pos ⟨hin.1,hin.2,by omega⟩] at hy;exact hv.2 _ av y hk hy
 · rw [if_neg hin] at hk;rw [if_neg (fun h=>hin ⟨h.1,h.2.1⟩)] at hy;exact h.2 k av y hk (by simpa using hy)
end
section
variable {E:Env} (hE:tabB E=true)
include hE
theorem xd9 {st:St} {fs:List (Nat × Nat)}:∀ {parts:List (Nat × Operand)} {cs:List AV} {k:List (Nat × TV)->List (Nat × Ob)->List AV->Prop},buildC E st fs parts cs k ->
 ∃
  rt ro cs',k rt ro cs'/\RdT rt st/\RdO ro st/\∀ (cx:Cx) (st':St) (a:Act) (w:World) (pl:Pl) (Z:Nat->Prop),Rel E.P cx st' a w pl Z->RdT rt st'->RdO ro st' ->
  ∀
   (cells:Array Value),Ars E.P st' pl Z w cs cells.toList->cs.all (AV.inU st'.u)=true->∀ places:Array (Nat × Nat),(∀ i off ft,fieldOf fs i=some (off,ft)->places[i]?=some (off,E.P.cellsOf ft)) ->
   ∃ cells',Instr.fill (places[·]?) cells (parts.map fun p=>(p.1,a.eval p.2))=some cells'/\Ars E.P st' pl Z w cs' cells'.toList/\cs'.all (AV.inU st'.u)=true
 | [],cs,k,h=>⟨[],[],cs,h,RdT.nil,RdO.nil,fun cx st' a w pl Z R _ _ cells h1 h2 places _=>⟨cells,rfl,h1,h2⟩⟩
 |
  (i,x)::r,cs,k,h=>by
  simp only [buildC] at h
  split at h
  · rename_i off ft hf;obtain ⟨ti,hT,_,h⟩:=zf hE h;obtain ⟨rt,v,h,hrt,hev⟩:=xk h
    split at h
    · rename_i hl hle;obtain ⟨ro,h,hro,hone⟩:=xqd h;rw [xq] at h;obtain ⟨rt',ro',cs',h,hrt',hro',hfin⟩:=xd9 h;refine ⟨rt++rt',ro++ro',cs',h,RdT.append.2 ⟨hrt,hrt'⟩,RdO.append.2 ⟨hro,hro'⟩,fun cx st' a w pl Z R ht ho cells h1 h2 places hpl=>?_⟩;obtain ⟨ht1,ht2⟩:=RdT.append.1 ht;obtain ⟨ho1,ho2⟩:=RdO.append.1 ho;obtain ⟨e1,e2⟩:=hev cx st' a w pl Z R ht1;have hv:=hone E.P cx st' a w pl Z R ho1 _ e1;have hl1:=zu.1 hl;have hl2:=y6.1 hle;have hst:=xsu h1 hv (off:=off) (by omega);have hu:(splice cs off (tvCells v)).all (AV.inU st'.u)=true:=xzl.2 fun b hb=>by
       rcases xg8 hb with hb|hb
       · exact xzl.1 h2 b hb
       · exact xzl.1 (xst e2) b hb
      obtain ⟨cells',g1,g2,g3⟩:=hfin cx st' a w pl Z R ht2 ho2 _ hst hu places hpl;refine ⟨cells',?_,g2,g3⟩;have hsz:(a.eval x).cells.size=ti.n:=by have:=hv.1; rw [x02] at this; omega
      have hcl:cells.size=cs.length:=by have:=h1.1; simpa using this
      simp only [x0d,Instr.fill,hpl i off ft hf,hT.cells,hsz];rw [if_neg (by simp; omega)];exact g1
    · exact h.elim
  · exact h.elim
omit hE in
theorem xqf {o:Oper} {uid t n:Nat} {fs:List (Nat × Nat)} {z:List AV} {parts:Array (Nat × Operand)} (ho:o.op=.build t parts) (hT:TIok E.P t ⟨.strct fs,n,z⟩) {rt:List (Nat × TV)} {ro:List (Nat × Ob)} {cs:List AV}
 (hb:∀ (cx:Cx) (st':St) (a:Act) (w:World) (pl:Pl) (Z:Nat->Prop),Rel E.P cx st' a w pl Z->RdT rt st'->RdO ro st' ->
   ∀
    (cells:Array Value),Ars E.P st' pl Z w z cells.toList->z.all (AV.inU st'.u)=true->∀ places:Array (Nat × Nat),(∀ i off ft,fieldOf fs i=some (off,ft)->places[i]?=some (off,E.P.cellsOf ft)) ->
    ∃ cells',Instr.fill (places[·]?) cells (parts.toList.map fun p=>(p.1,a.eval p.2))=some cells'/\Ars E.P st' pl Z w cs cells'.toList/\cs.all (AV.inU st'.u)=true) :
 Good E.P o uid ⟨rt,ro,.agg cs,[],[]⟩ :=
 Good.value fun cx st a w pl Z R ht hro=>by
  obtain ⟨fields,hu,hfs⟩:=hT.strct;obtain ⟨i,zv,h1,h2,h3,h4,h5⟩:=hT.zlen;obtain ⟨ha,hinu⟩:=xbl (P:=E.P) (st:=st) (pl:=pl) (Z:=Z) (w:=w) h3;obtain ⟨cells',g1,g2,g3⟩:=hb cx st a w pl Z R ht hro zv.cells ha (hinu st.u) (fields.toList.map fun f=>(f.offset,E.P.cellsOf f.type)).toArray fun i off ft hf=>by
   rw [x2l]; exact xqe hfs hf
  have hpl:=xg9 (w:=w) hfs;refine ⟨.agg cells',?_,⟨cells'.toList,by rw [x1s],g2⟩,g3⟩;have hm:(fields.mapM (fun f=>do pure (f.offset,<- sizeOf f.type)):Go.Sem _).run E.P w=.ok (fields.toList.map fun f=>(f.offset,E.P.cellsOf f.type)).toArray w:=by
   rw [Array.mapM_eq_mapM_toList,map_eq_pure_bind,Sem.run_bind,hpl];rfl
  simp only [execOp,ho,Instr.build,zeroValue,typeInfo,Sem.run_bind,run_program,Result.andThen_ok,h1,Sem.run_pure,h2,run_underlying hu];rw [hm];have hpm:(parts.map fun p=>(p.1,a.eval p.2)).toList=parts.toList.map fun p=>(p.1,a.eval p.2):=x28;simp only [Result.andThen_ok];rw [hpm,g1];simp
end
end Go.AM
end
section
namespace Go.AM
open Go
theorem xha {n:Nat} {a:AV} {ks:List Nat} (h:keepsB n a=true) (hk:∀ m∈ks,m=n):a.drop ks=a:=by
 have hit:∀ ns:List Nat,hitN ns [n]=false->hitN ns ks=false:=fun ns h=>xz.2 fun m hm hmk=>xz.1 h m hm (by simp [hk m hmk]);cases a<;>simp only [keepsB,AV.tag1,x05,AV.drop] at h ⊢
 · rw [hit _ h]; rfl
 · rw [hit _ h]; rfl
 · rename_i f caps;have:anyTag ks caps=false:=qa.2 fun a ha=>by
    have:=qa.1 h a ha;cases a<;>simp only [AV.tag1] at this ⊢<;>exact hit _ this
   rw [this]; rfl
theorem xfq {P:Program} {w:World} {t:Nat} {ti:TI} (hT:TIok P t ti) {g o:Nat} {c:Array Value} {ty:Nat} {v:Value} (hg:w.heap[g]?=some (.cells c ty (0,0))) (hv:v.cells.size=ti.n) (ho:o+ti.n<=c.size) (h1:∀ x∈v.cells.toList,x.oneCell'=true) :
 (Instr.storeAt t (.pointer (some ⟨g,o,none⟩)) v).run P w=.ok () (w.setRow g (c.toList.take o++v.cells.toList++c.toList.drop (o+ti.n)).toArray):=by
 have hs:=hT.size (P:=P) w;have hst:=run_storeCells_at P g o ty v.cells.toList 0 c w hg (by rw [x02,hv]; omega) h1;rw [x02,hv] at hst;simp only [x31] at hst;simp [Instr.storeAt,Instr.sureAddr,storeVar,hs,hv,hst]
section
variable {P:Program} {cx:Cx} {st:St} {a:Act} {w:World} {pl:Pl} {Z:Nat->Prop}
theorem Rel.frmW (R:Rel P cx st a w pl Z) {n:Nat} {row:List AV} (hob:lk st.s n=some (.box row)) {c c':Array Value} {ty:Nat} (hc:w.heap[(pl.adr n).1]?=some (.cells c ty (0,0))) (hs:c'.size=c.size)
 (hk:∀ k,¬ ((pl.adr n).2<=k/\∃ av,row[k - (pl.adr n).2]?=some av/\av.isNa=false)->c'[k]?=c[k]?):Frm cx.w0 (w.setRow (pl.adr n).1 c') cx.own0 cx.io:=by
 have hown:pl.own n=[(pl.adr n).1]:=(R.obj n _ hob).1;have hn:st.has n:=by unfold St.has St.O; rw [hob]; rfl
 have hmay:=(R.lt n hn _ (by rw [hown]; exact xzq.2 rfl)).2.2;refine ⟨R.fr.os,R.fr.tape,R.fr.output,x1r R.fr.size (by simp [World.setRow]),fun k h1 h2 h3=>?_,fun i hi=>?_⟩
 · rw [setRow_other]
   · exact R.fr.blk k h1 h2 h3
   · rintro rfl;rcases hmay with h|⟨i,hi,e⟩|h
     · exact h2 h
     · exact h3 i hi e
     · omega
 · obtain ⟨c0,c1,ty',e1,e2,e3,e4⟩:=R.fr.iob i hi;by_cases hb:(pl.adr n).1=i.b
   · rw [<- hb] at e2;rw [hc] at e2;simp only [x0g,Obj.cells.injEq,x29] at e2;obtain ⟨rfl,rfl⟩:=e2;refine ⟨c0,c',ty,e1,by rw [<- hb]; exact setRow_heap w _ c c' ty (0,0) hc,by omega,fun k hcan=>?_⟩;rw [<- e4 k hcan];refine hk k fun ⟨h1,av,h2,h3⟩=>hcan ?_;obtain ⟨g1,g2⟩:=R.io i hi n row hob hb;refine ⟨by omega,?_⟩;rw [<- g2,<- g1,xzr,h2]; simp [h3]
   · refine ⟨c0,c1,ty',e1,?_,e3,e4⟩;rw [setRow_other _ _ _ _ fun e=>hb e.symm]; exact e2
end
section
variable {P:Program} {o:Oper} {uid:Nat}
theorem xni {t:Nat} {ti:TI} {x v:Operand} (ho:o.op=.store t x v) (hT:TIok P t ti) {rx rv:List (Nat × TV)} {ro:List (Nat × Ob)} {n off:Nat} {row:List AV} {tv:TV} (hx:Ev P x rx (.one (.ptr n 0 off))) (hv:Ev P v rv tv) (hl:(tvCells tv).length=ti.n) (hle:off+ti.n<=row.length)
 (hna:∀ av∈takeC ti.n (dropC off row),noNa av=true)
 (hlive:∀ (cx:Cx) (st':St) (a:Act) (w:World) (pl:Pl) (Z:Nat->Prop),Rel P cx st' a w pl Z->RdO ro st'->∀ av∈tvCells tv,∀ x,Ar P st' pl Z w av x->x.oneCell'=true)
 (hkeep:∀ av∈splice row off (embox (uid*64+1) (tvCells tv)).1,keepsB n av=true) :
 Good P o uid ⟨rx++rv,(n,.box row)::ro,.one .undef,(n,.box (splice row off (embox (uid*64+1) (tvCells tv)).1))::(embox (uid*64+1) (tvCells tv)).2,[]⟩:=by
 intro cx st a w pl Z R ht hro hok K Q hK;obtain ⟨ht1,ht2⟩:=RdT.append.1 ht;obtain ⟨e1,_⟩:=hx cx st a w pl Z R ht1;obtain ⟨e2,e2u⟩:=hv cx st a w pl Z R ht2;have hob:=(RdO.cons.1 hro).1;have hro':=(RdO.cons.1 hro).2;have hptr:a.eval x=.pointer (some ⟨(pl.adr n).1,(pl.adr n).2+off,none⟩):=e1 _ hob;obtain ⟨hown,c,ty,hc,hsz,hr⟩:=R.obj n _ hob;have hn:st.has n:=by unfold St.has St.O; rw [hob]; rfl
 have hone:=hlive cx st a w pl Z R hro';have hars:Ars P st pl Z w (tvCells tv) (a.eval v).cells.toList:=by
  cases tv with
  | one b =>
    rw [xd7 (hone b (by simp [tvCells]) _ e2)];refine ⟨rfl,fun k av y hk hy=>?_⟩
    cases k with
    | zero=>simp [tvCells] at hk hy; subst hk; subst hy; exact e2
    | succ k=>simp [tvCells] at hk
  | agg cs=>obtain ⟨xs,e1,h3⟩:=e2; rw [e1]; exact h3
  | tup vs=>simp [tvCells] at hl; have:=hT.pos; omega
 generalize hcs:tvCells tv=cs at *;generalize hvs:(a.eval v).cells.toList=vs at *;have hvsz:(a.eval v).cells.size=ti.n:=by rw [<- x02,hvs,hars.1,hl]
 have hvl:vs.length=ti.n:=by rw [<- hvs,x02]; exact hvsz
 have hnaC:∀ av∈cs,av.isNa=false:=by
  intro av hav
  cases av<;>first|rfl|skip
  exact absurd (hone .na hav (.agg #[]) trivial) (by simp [Value.oneCell'])
 let c':Array Value:=(c.toList.take ((pl.adr n).2+off)++vs++c.toList.drop ((pl.adr n).2+off+ti.n)).toArray;let w':=w.setRow (pl.adr n).1 c';have hcsz:c'.size=c.size:=by simp [c',hvl]; omega
 have hcin:∀ k,off<=k/\k<off+ti.n->c'[(pl.adr n).2+k]?=vs[k - off]?:=by
  intro k hk;simp only [c',x0c,x2l];rw [xz8 (by simp; omega)];have:(c.toList.take ((pl.adr n).2+off)).length=(pl.adr n).2+off:=by simp; omega
  rw [this,x0a (by omega)];congr 1; omega
 have hcout:∀ k,¬ ((pl.adr n).2+off<=k/\k<(pl.adr n).2+off+ti.n)->c'[k]?=c[k]?:=by
  intro k hk;simp only [c',x0c,x2l];have h1:(c.toList.take ((pl.adr n).2+off)).length=(pl.adr n).2+off:=by simp; omega
  by_cases h2:k<(pl.adr n).2+off
  · rw [x0a (by omega),xz7,if_pos h2]; simp
  · rw [xz8 (by omega),h1,xz8 (by omega),x0p];rw [show (pl.adr n).2+off+ti.n+(k - ((pl.adr n).2+off) - vs.length)=k by omega];simp
 have hrun:(execOp a.eval o).run P w=.ok .skip w':=by
  have:=xfq (P:=P) (w:=w) hT (g:=(pl.adr n).1) (o:=(pl.adr n).2+off) (v:=a.eval v) hc hvsz (by omega) (by
   rw [hvs];intro y hy;obtain ⟨k,hk,rfl⟩:=x0h.1 hy;have hk2:k<cs.length:=by omega
   exact hone _ (x0m hk2) _ (hars.2 k _ _ (xzh hk2) (xzh hk)))
  rw [hvs] at this;simp only [execOp,ho,hptr,Sem.run_bind,this,Result.andThen_ok,Sem.run_pure];rfl
 let row':=splice row off (embox (uid*64+1) cs).1;let pk:Pk:=⟨rx++rv,(n,.box row)::ro,.one .undef,(n,.box row')::(embox (uid*64+1) cs).2,[]⟩;let ps:List Plc:=⟨n,.box row',pl.hdr n,pl.adr n,pl.own n⟩::(embox (uid*64+1) cs).2.map nilP;have hput:pk.put=ps.map fun p=>(p.n,p.o):=by simp only [pk,ps,x0d,xg0]
 have hnm:names pk.put=ps.map (·.n):=by rw [hput,yd]
 have hu':uniqN (ps.map (·.n))=true:=by have:=y7 hok; rw [<- hnm]; exact this
 have hfr:=kk hok (by simp);have hb30:cs.length<=30:=by rw [hl]; exact hT.small
 have hnew:∀ p∈(embox (uid*64+1) cs).2.map nilP,lk st.s p.n=none/\p.n / 64=uid:=by
  intro p hp;obtain ⟨q,hq,rfl⟩:=xzv.1 hp;have hd:(nilP q).n / 64=uid:=xg1 hb30 hq;exact ⟨kl R hfr hd,hd⟩
 have hmem:(⟨n,.box row',pl.hdr n,pl.adr n,pl.own n⟩:Plc)∈ps:=xz5 ..;have hW:∀ b,Wr st pl pk b↔b=(pl.adr n).1:=by
  intro b;constructor
  · rintro ⟨m,hm,hh,hb⟩;rcases hm with hm|hm
    · rw [hnm] at hm;obtain ⟨p,hp,rfl⟩:=xzv.1 hm;rcases xzn.1 hp with rfl|hp
      · simp only at hb; rw [hown] at hb; exact xzq.1 hb
      · unfold St.has St.O at hh; rw [(hnew p hp).1] at hh; cases hh
    · cases hm
  · rintro rfl;exact ⟨n,.inl (by rw [hnm]; exact xzv.2 ⟨_,hmem,rfl⟩),hn,by rw [hown]; exact xzq.2 rfl⟩
 have chg:Chg w w' (Wr st pl pk):=⟨rfl,rfl,rfl,by simp [w',World.setRow],fun k hk hnk=>setRow_other w _ k _ fun e=>hnk ((hW k).2 e)⟩;have old:∀ p∈ps,∀ o,lk st.s p.n=some o->o.like p.o/\p.h=pl.hdr p.n/\p.ad=pl.adr p.n:=by
  intro p hp o ho';rcases xzn.1 hp with rfl|hp
  · rw [hob] at ho'; cases ho'; exact ⟨trivial,rfl,rfl⟩
  · rw [(hnew p hp).1] at ho'; cases ho'
 have N:=stays R (dst:=o.dst) hok hput chg old fun _ h=>h;have hks:∀ m∈olds st pk.put++pk.del,m=n:=by
  intro m hm;rcases xzs.1 hm with hm|hm
  · obtain ⟨h1,h2⟩:=vf.1 hm;rw [hnm] at h1;obtain ⟨p,hp,rfl⟩:=xzv.1 h1;rcases xzn.1 hp with rfl|hp
    · rfl
    · unfold St.has St.O at h2; rw [(hnew p hp).1] at h2; cases h2
  · cases hm
 have hel:(embox (uid*64+1) cs).1.length=cs.length:=xd5;have hrowl:off+(embox (uid*64+1) cs).1.length<=row.length:=by rw [hel,hl]; exact hle
 have hu0:cs.all (AV.inU st.u)=true:=by rw [<- hcs]; exact xst e2u
 have hcsdrop:cs.map (AV.drop (olds st pk.put++pk.del))=cs:=by
  conv=>rhs; rw [<- x21 cs]
  refine x06 fun av hav=>?_;obtain ⟨k,hk,rfl⟩:=x0h.1 hav;have hk':k<(embox (uid*64+1) cs).1.length:=by rw [hel]; exact hk
  rcases wn (xzh hk') with ⟨h1,_⟩|⟨t',h1,h2,_⟩
  · rw [xzh hk] at h1;simp only [x0g] at h1;refine xha (hkeep _ ?_) hks;rw [h1];simp only [splice,xzs];exact .inl (.inr (x0m hk'))
  · rw [xzh hk] at h1;simp only [x0g] at h1;rw [h1]; rfl
 have hars':=Ars.drop N hu0 hars;rw [hcsdrop] at hars';have hhd:∀ p∈(embox (uid*64+1) cs).2,(over pl ps).hdr p.1=.slice none 0 0:=fun p hp=>(xx (pl:=pl) hu' (p:=nilP p) (xzp _ (xzv.2 ⟨p,hp,rfl⟩))).1;have hars2:=xi6 (n:=uid*64+1) hars' hhd;have hus:=(R.us n _ hob).2;have hinU:row'.all (AV.inU (uid::st.u))=true:=by
  refine xzl.2 fun av hav=>?_;rcases xg8 hav with h|h
  · exact AV.inU_mono (fun _ h=>qh h) (xzl.1 hus av h)
  · refine xzl.1 (xi7 (xzl.2 fun a ha=>AV.inU_mono (fun _ h=>qh h) (xzl.1 hu0 a ha)) fun p hp=>?_) av h;exact vv (hnew (nilP p) (xzv.2 ⟨p,hp,rfl⟩)).2
 have hnaE:∀ av∈(embox (uid*64+1) cs).1,av.isNa=false:=by
  intro av hav;obtain ⟨k,hk,rfl⟩:=x0h.1 hav;rcases wn (xzh hk) with ⟨h1,_⟩|⟨t',h1,h2,_⟩
  · exact hnaC _ (xzy h1)
  · rw [h2]; rfl
 have hnaP:row'.map (fun a=>!a.isNa)=row.map (fun a=>!a.isNa):=by
  apply x2h;intro k;rw [xzr,xzr];simp only [row'];rw [xah hrowl]
  split
  · rename_i hk;have hk1:k - off<(embox (uid*64+1) cs).1.length:=by omega
    have hk2:k<row.length:=by omega
    rw [xzh hk1,xzh hk2];simp only [x0y,x0g];rw [hnaE _ (x0m hk1)]
    have h3:noNa row[k]=true:=hna _ (by
     rw [yb,yc];refine xzy (i:=k - off) ?_
     rw [xz7,if_pos (by omega),x0p,show off+(k - off)=k by omega,xzh hk2])
    generalize row[k]=b at h3
    cases b<;>first|rfl|cases h3
  · rfl
 have hlen':row'.length=row.length:=km hrowl;have S:Step P cx st w pl Z o.dst uid pk undef w' (over pl ps) Z:=by
  refine Step.of R hok ps hput chg (R.frmW hob hc hcsz fun k hk=>?_) old (fun _ h=>h) (fun _ h=>.inl h) ?_ ?_ ?_ ?_ ?_
  · apply hcout;intro hk';apply hk;have hk2:k - (pl.adr n).2<row.length:=by omega
    refine ⟨by omega,row[k - (pl.adr n).2],xzh hk2,?_⟩
    have h3:noNa row[k - (pl.adr n).2]=true:=hna _ (by
     rw [yb,yc];refine xzy (i:=k - (pl.adr n).2 - off) ?_
     rw [xz7,if_pos (by omega),x0p,show off+(k - (pl.adr n).2 - off)=k - (pl.adr n).2 by omega,xzh hk2])
    generalize row[k - (pl.adr n).2]=b at h3
    cases b<;>first|rfl|cases h3
  · intro p hp;rcases xzn.1 hp with rfl|hp'
    · refine ⟨⟨?_,c',ty,?_,?_,?_⟩,R.nd n hn,hinU,fun b hb=>?_⟩
      · rw [(xx (pl:=pl) hu' hp).2.2,(xx (pl:=pl) hu' hp).2.1]; exact hown
      · rw [(xx (pl:=pl) hu' hp).2.1]; exact setRow_heap w _ c c' ty (0,0) hc
      · rw [(xx (pl:=pl) hu' hp).2.1,hlen',hcsz]; exact hsz
      · intro k av y hk hy;rw [(xx (pl:=pl) hu' hp).2.1] at hy;have hy:c'[(pl.adr n).2+k]?=some y:=hy;have hkm:av∈row':=xzy hk;simp only [row'] at hk;rw [xah hrowl] at hk
        split at hk
        · rename_i hin;rw [hel,hl] at hin;rw [hcin k hin] at hy;exact hars2.2 _ av y hk hy
        · rename_i hin;rw [hel,hl] at hin;rw [hcout _ (by omega)] at hy;have h1:=hr k av y hk hy;have h2:=Ar.drop N (xzl.1 hus av (xzy hk)) h1;rw [xha (hkeep av hkm) hks] at h2;exact h2
      · rw [hown] at hb;have hb':=xzq.1 hb;subst hb';have h3:=R.lt n hn (pl.adr n).1 (by rw [hown]; exact xzq.2 rfl);exact ⟨by simp only [w',World.setRow]; simpa using h3.1,h3.2.1,.inr ((hW _).2 rfl)⟩
    · obtain ⟨g1,g2,g3⟩:=xx (pl:=pl) hu' hp;obtain ⟨h1,h2,h3,t',h4⟩:=xsp (P:=P) (st':=apply st o.dst uid pk) (Z':=Z) (w':=w') hp' g1 g3;refine ⟨h1,by rw [h2]; exact x09,by rw [h4]; rfl,fun b hb=>by rw [h2] at hb; cases hb⟩
  · intro p hp q hq hne b hb;rcases xzn.1 hq with rfl|hq'
    · rcases xzn.1 hp with rfl|hp'
      · exact absurd rfl hne
      · obtain ⟨p',_,rfl⟩:=xzv.1 hp'; cases hb
    · obtain ⟨q',_,rfl⟩:=xzv.1 hq'; exact x0o
  · intro d hd; exact ⟨trivial,rfl⟩
  · intro i hi p hp r' hr' had;rcases xzn.1 hp with rfl|hp'
    · simp only [Ob.box.injEq] at hr';subst hr';obtain ⟨g1,g2⟩:=R.io i hi n row hob had;exact ⟨g1,by rw [hnaP]; exact g2⟩
    · obtain ⟨p',hp'',rfl⟩:=xzv.1 hp';obtain ⟨_,t',h2,_⟩:=wj hp'';simp only [nilP] at hr'; rw [h2] at hr'; cases hr'
  · intro i hi p hp ⟨t',rows,q,hq⟩;rcases xzn.1 hp with rfl|hp'
    · cases hq
    · obtain ⟨p',_,rfl⟩:=xzv.1 hp'; exact x0o
 unfold Oper.wp;rw [hrun];exact hK _ _ _ _ S
end
end Go.AM
end
section
namespace Go.AM
open Go
theorem xch {α:Type} {l d:List α} {p k:Nat} (h:p+d.length<=l.length):(l.take p++d++l.drop (p+d.length))[k]?=if p<=k/\k<p+d.length then d[k - p]? else l[k]?:=by
 rw [x0c];have e:(l.take p).length=p:=by simp; omega
 by_cases h1:k<p
 · rw [x0a (by omega),xz7,if_pos h1,if_neg (by omega)]
 · rw [xz8 (by omega),e];by_cases h2:k<p+d.length
   · rw [x0a (by omega),if_pos ⟨by omega,h2⟩]
   · rw [xz8 (by omega),x0p,if_neg (by omega)];congr 1; omega
theorem xkv {α:Type} {m:Nat} {row':List α}:∀ {rows:List (List α)} {i:Nat},(∀ r∈rows,r.length=m)->i<rows.length->(rows.set i row').flatten=rows.flatten.take (i*m)++row'++rows.flatten.drop (i*m+m)
 | [],i,_,h=>by simp at h
 | r::rs,0,hw,_=>by
   have:=hw r (by simp);simp [this]
 | r::rs,i+1,hw,h=>by
   have hr:=hw r (by simp);have ih:=xkv (row':=row') (rows:=rs) (i:=i) (fun r hr=>hw r (by simp [hr])) (by simpa using h);simp only [List.set_cons_succ,x01,ih];rw [x1g,List.take_append,List.drop_append,hr];rw [xzx (l:=r) (by omega),x1x (as:=r) (by omega)];rw [show i*m+m - m=i*m by omega,show i*m+m+m - m=i*m+m by omega];simp
theorem xhb {rows:List (List AV)} {row cs:List AV} {m i off k:Nat} (hw:∀ r∈rows,r.length=m) (hi:rows[i]?=some row) (hl:off+cs.length<=row.length) :
 (rows.set i (splice row off cs)).flatten[k]?=if i*m+off<=k/\k<i*m+off+cs.length then cs[k - (i*m+off)]? else rows.flatten[k]?:=by
 have hil:=(xzm.1 hi).1;have hrl:=xcf hw hi;have hsl:=km hl;have hfl:=zw hw;have hbd:i*m+m<=rows.length*m:=by
  have:(i+1)*m<=rows.length*m:=x0b m hil;rw [x1g] at this; exact this
 rw [xkv hw hil];have:=xch (l:=rows.flatten) (d:=splice row off cs) (p:=i*m) (k:=k) (by rw [hsl,hrl,hfl]; exact hbd);rw [hsl,hrl] at this;rw [this];by_cases h1:i*m<=k/\k<i*m+m
 · rw [if_pos h1,xah hl];by_cases h2:i*m+off<=k/\k<i*m+off+cs.length
   · rw [if_pos h2,if_pos (by omega)];congr 1; omega
   · rw [if_neg h2,if_neg (by omega)];have hk:k - i*m<row.length:=by omega
     have:=jt hw hi (xzh hk);rw [show i*m+(k - i*m)=k by omega] at this;rw [this,xzh hk]
 · rw [if_neg h1,if_neg (by omega)]
section
variable {P:Program} {o:Oper} {uid:Nat}
theorem xnj {t:Nat} {ti:TI} {x v:Operand} (ho:o.op=.store t x v) (hT:TIok P t ti) {rx rv:List (Nat × TV)} {ro:List (Nat × Ob)} {n i off te:Nat} {p:Bool} {rows:List (List AV)} {row cs:List AV} {tv:TV} {ms:List Nat}
 (hx:Ev P x rx (.one (.ptr n i off))) (hv:Ev P v rv tv) (hl:(tvCells tv).length=ti.n) (hle:off+ti.n<=row.length) (hrow:rows[i]?=some row) (hcl:cs.length=(tvCells tv).length) (hnd:ms.Nodup) (hnm:n ∉ ms) (hms:∀ m∈ms,∃ t rows,lk ro m=some (.arr t rows false))
 (hcs:∀ (P:Program) (cx:Cx) (st':St) (a:Act) (w:World) (pl:Pl) (Z:Nat->Prop),Rel P cx st' a w pl Z->RdO ro st'->∀ xs,Ars P st' pl Z w (tvCells tv) xs ->
   ∃ fs:List (List Nat),fs.length=cs.length/\fs.flatten=ms.flatMap pl.own/\∀ (k:Nat) (av:AV) (x:Value) (f:List Nat),cs[k]?=some av->xs[k]?=some x->fs[k]?=some f->Ow P w Z av x f) :
 Good P o uid ⟨rx++rv,(n,.arr te rows p)::ro,.one .undef,[(n,.arr te (rows.set i (splice row off cs)) p)],ms.reverse⟩:=by
 intro cx st a w pl Z R ht hro hok K Q hK;obtain ⟨ht1,ht2⟩:=RdT.append.1 ht;obtain ⟨e1,_⟩:=hx cx st a w pl Z R ht1;obtain ⟨e2,e2u⟩:=hv cx st a w pl Z R ht2;have hob:=(RdO.cons.1 hro).1;have hro':=(RdO.cons.1 hro).2;have hn:st.has n:=by unfold St.has St.O; rw [hob]; rfl
 have hne:rows≠[]:=by intro e; subst e; simp at hrow
 obtain ⟨g,cap,cur,cells,fs,hh,hg,hcap,hm,hsz,htake,hw,hcln,hfl,hr,hown⟩:=xff R hob hne;have hptr:a.eval x=.pointer (some ⟨g,i*P.cellsOf te+off,none⟩):=by
  have:=e1 _ hob;simpa [ptrAt,hh,Value.ownBlock] using this
 obtain ⟨hars,fs2,f1,f1',f2,f3⟩:=xfp (vs:=[tv]) (xv:=[a.eval v]) (n:=ti.n) (rows:=[cs]) (W:=ms.flatMap pl.own)
  (fun j v' hj=>by
    cases j with
    | zero=>simp at hj; subst hj; exact ⟨a.eval v,rfl,e2⟩
    | succ j=>simp at hj) rfl hT.pos (fun c hc=>by simp at hc; subst hc; exact hl) rfl (fun r hr=>by simp at hr; subst hr; omega)
  (fun xss hxl hxa=>by
    match xss,hxl with
    | [xs],_ =>
      obtain ⟨fs,g1,g2,g3⟩:=hcs P cx st a w pl Z R hro' xs (hxa 0 _ _ rfl rfl);have hxs:xs.length=cs.length:=by rw [(hxa 0 _ _ rfl rfl).1,hcl]
      exact ⟨fs,by simpa using g1,by simpa using hxs,g2,fun k av x f h1 h2 h3=>g3 k av x f (by simpa using h1) (by simpa using h2) h3⟩)
 have hars:=hars 0 tv (a.eval v) rfl rfl;simp only [x0d,x18,x01,x32,x0l] at f1 f1' f3;generalize hvs:(a.eval v).cells.toList=vs at *;have hvl:vs.length=ti.n:=by rw [f1']; omega
 have hvsz:(a.eval v).cells.size=ti.n:=by rw [<- x02,hvs,hvl]
 have hil:i<rows.length:=(xzm.1 hrow).1;have hrl:=xcf hw hrow;have hbd:i*P.cellsOf te+P.cellsOf te<=rows.length*P.cellsOf te:=by
  have:(i+1)*P.cellsOf te<=rows.length*P.cellsOf te:=x0b _ hil;rw [x1g] at this; exact this
 have hcm:rows.length*P.cellsOf te<=cur.size:=by rw [hsz]; exact x0b _ hcap
 generalize hpos:i*P.cellsOf te+off=pos at *;have hpn:pos+ti.n<=rows.length*P.cellsOf te:=by omega
 let c':Array Value:=(cur.toList.take pos++vs++cur.toList.drop (pos+ti.n)).toArray;let w':=w.setRow g c';have hcsz:c'.size=cur.size:=by simp [c',hvl]; omega
 have hcget:∀ k:Nat,c'[k]?=if pos<=k/\k<pos+ti.n then vs[k - pos]? else cur[k]?:=by
  intro k;have:=xch (l:=cur.toList) (d:=vs) (p:=pos) (k:=k) (by rw [hvl,x02]; omega);rw [hvl] at this;simp only [c',x2l,this,x0w]
 have hrun:(execOp a.eval o).run P w=.ok .skip w':=by
  have:=xfq (P:=P) (w:=w) hT (g:=g) (o:=pos) (v:=a.eval v) hg hvsz (by omega) (by
   rw [hvs];intro y hy;obtain ⟨k,hk,rfl⟩:=x0h.1 hy;have hk2:k<cs.length:=by omega
   exact (f3 k _ _ _ (xzh hk2) (xzh hk) (xzh (by omega))).oneCell)
  rw [hvs] at this;simp only [execOp,ho,hptr,Sem.run_bind,this,Result.andThen_ok,Sem.run_pure];rfl
 let fs':=fs.take pos++fs2++fs.drop (pos+fs2.length);have hf2l:fs2.length=ti.n:=by rw [f1]; omega
 have hfget:∀ k:Nat,fs'[k]?=if pos<=k/\k<pos+ti.n then fs2[k - pos]? else fs[k]?:=by
  intro k;have:=xch (l:=fs) (d:=fs2) (p:=pos) (k:=k) (by rw [hf2l,hfl,hcln]; exact hpn);rw [this,hf2l]
 have hmhas:∀ m∈ms,∃ t rows p,lk st.s m=some (.arr t rows p):=fun m hm=>by
  obtain ⟨t,rows,h⟩:=hms m hm;exact ⟨t,rows,false,hro' (m,_) (ym h)⟩
 have hmh:∀ m∈ms,st.has m:=fun m hm=>by obtain ⟨t,r,p,h⟩:=hmhas m hm; unfold St.has St.O; rw [h]; rfl
 have hin2:∀ b∈fs2.flatten,∃ m∈ms,b∈pl.own m:=fun b hb=>by rw [f2] at hb; exact x0i.1 hb
 have hdis:∀ b∈pl.own n,b ∉ fs2.flatten:=by
  intro b hb hb2;obtain ⟨m,hm,hbm⟩:=hin2 b hb2;exact R.dj n m hn (hmh m hm) (fun e=>hnm (by rw [e]; exact hm)) b hb hbm
 have hlt2:∀ b∈fs2.flatten,b<w.heap.size/\¬ Z b:=by
  intro b hb;obtain ⟨m,hm,hbm⟩:=hin2 b hb;exact ⟨(R.lt m (hmh m hm) b hbm).1,(R.lt m (hmh m hm) b hbm).2.1⟩
 have hnd0:(g::fs.flatten).Nodup:=hown▸R.nd n hn;have hgown:g∈pl.own n:=by rw [hown]; simp
 have hg2:g ∉ fs2.flatten:=hdis g hgown;have hgf:g ∉ fs.flatten:=(x0x.1 hnd0).1;have hsubs:∀ l∈fs',l∈fs\/l∈fs2:=by
  intro l hl;simp only [fs',xzs] at hl;rcases hl with (h|h)|h
  · exact .inl (x0u h)
  · exact .inr h
  · exact .inl (x1n h)
 have hsub:∀ b∈fs'.flatten,b∈fs.flatten\/b∈fs2.flatten:=by
  intro b hb;obtain ⟨l,hl,hbl⟩:=x08.1 hb;rcases hsubs l hl with h|h
  · exact .inl (x08.2 ⟨l,h,hbl⟩)
  · exact .inr (x08.2 ⟨l,h,hbl⟩)
 have hkeep:∀ b,b≠g->w'.heap[b]?=w.heap[b]?:=fun b hb=>setRow_other w g b c' hb;have hZ:∀ b,Z b->w'.heap[b]?=w.heap[b]?:=fun b hb=>hkeep b fun e=>(R.lt n hn g hgown).2.1 (e▸hb);have hOw:Ow P w' Z (.sl te (rows.set i (splice row off cs))) (pl.hdr n) (g::fs'.flatten):=by
  have hcm':rows.length*P.cellsOf te<=c'.size:=by omega
  have h1:w'.ownsRow 0 te (P.cellsOf te) (pl.hdr n) (rows.set i (splice row off cs)).length (c'.toList.take (rows.length*P.cellsOf te)):=by
   rw [x03,hh];exact ⟨by simp; omega,.inr ⟨g,cap,c',rfl,xz1 _,setRow_heap w g cur c' te (0,0) hg,hcap,hm,by rw [hcsz,hsz],rfl⟩⟩
  have:=Ow.sl (P:=P) (Z:=Z) (fs:=fs') (by rw [x03]; exact Ow.max (R.obj n _ hob)) (fun r hr=>by
   rcases x1l hr with h|h
   · exact hw r h
   · rw [h,km (by omega)]; exact hrl) h1 (by simp [fs',hf2l,hfl,hcln]; omega) fun k av y f hk hy hf=>by
   rw [xhb hw hrow (by omega),hpos,show cs.length=ti.n by omega] at hk;rw [hfget] at hf;rw [xz7] at hy
   split at hy
   · rename_i hkl;rw [x0w,hcget] at hy
     split at hk
     · rename_i hin;rw [if_pos hin] at hf hy;refine (f3 _ av y f hk hy hf).mono (fun _ h=>h) hZ fun b hb=>hkeep b fun e=>hg2 ?_;rw [<- e]; exact yn hf b hb
     · rename_i hin;rw [if_neg hin] at hf hy;have hy':cells[k]?=some y:=by rw [<- htake,xz7,if_pos hkl]; simpa using hy
       refine (hr _ av y f hk hy' hf).mono (fun _ h=>h) hZ fun b hb=>hkeep b fun e=>hgf ?_;rw [<- e]; exact yn hf b hb
   · cases hy
  have hob':(pl.hdr n).ownBlock=some g:=by rw [hh]; rfl
  rw [hob'] at this;exact this
 have hnd':(g::fs'.flatten).Nodup:=by
  refine x0x.2 ⟨fun h=>(hsub g h).elim hgf hg2,?_⟩;have hfn:fs.flatten.Nodup:=(x0x.1 hnd0).2;have h2n:fs2.flatten.Nodup:=by rw [f2]; exact qq R hnd hmh
  have e:fs'.flatten=(fs.take pos).flatten++(fs2.flatten++(fs.drop (pos+fs2.length)).flatten):=by simp [fs',x0c]
  rw [e,(List.perm_append_comm_assoc _ _ _).nodup_iff];have hsl:List.Sublist ((fs.take pos).flatten++(fs.drop (pos+fs2.length)).flatten) fs.flatten:=by
   have e2:fs.flatten=(fs.take pos).flatten++(((fs.drop pos).take fs2.length).flatten++(fs.drop (pos+fs2.length)).flatten):=by
    conv=>lhs; rw [<- x10 pos fs,x07,<- x10 fs2.length (fs.drop pos),x07,x3n]
   rw [e2];exact x2q (x20 _) (x2t _ _)
  refine x0j.2 ⟨h2n,hsl.nodup hfn,fun b hb c hc e=>?_⟩;subst e;exact hdis b (by rw [hown]; exact xzp _ (hsl.subset hc)) hb
 let pk:Pk:=⟨rx++rv,(n,.arr te rows p)::ro,.one .undef,[(n,.arr te (rows.set i (splice row off cs)) p)],ms.reverse⟩;let ps:List Plc:=[⟨n,.arr te (rows.set i (splice row off cs)) p,pl.hdr n,pl.adr n,g::fs'.flatten⟩];have hput:pk.put=ps.map fun p=>(p.n,p.o):=rfl;have hu':uniqN (ps.map (·.n))=true:=y7 hok;have hmem:(⟨n,.arr te (rows.set i (splice row off cs)) p,pl.hdr n,pl.adr n,g::fs'.flatten⟩:Plc)∈ps:=xz5 ..;have hW:∀ b,Wr st pl pk b↔b∈pl.own n\/∃ m∈ms,b∈pl.own m:=by
  intro b;constructor
  · rintro ⟨m,hm,hh,hb⟩;rcases hm with hm|hm
    · simp [pk,names] at hm; subst hm; exact .inl hb
    · exact .inr ⟨m,by simpa [pk] using hm,hb⟩
  · rintro (hb|⟨m,hm,hb⟩)
    · exact ⟨n,.inl (by simp [pk,names]),hn,hb⟩
    · exact ⟨m,.inr (by simpa [pk] using hm),hmh m hm,hb⟩
 have chg:Chg w w' (Wr st pl pk):=⟨rfl,rfl,rfl,by simp [w',World.setRow],fun k hk hnk=>hkeep k fun e=>hnk ((hW k).2 (.inl (e▸hgown)))⟩;have S:Step P cx st w pl Z o.dst uid pk undef w' (over pl ps) Z:=by
  refine Step.of R hok ps hput chg (R.frm chg fun b hb=>?_) ?_ (fun _ h=>h) (fun _ h=>.inl h) ?_ ?_ ?_ ?_ ?_
  · rcases (hW b).1 hb with h|⟨m,hm,h⟩
    · exact ⟨n,te,rows,p,hob,h⟩
    · obtain ⟨t,r,q,hl⟩:=hmhas m hm; exact ⟨m,t,r,q,hl,h⟩
  · intro q hq o' ho';rw [xzq.1 hq] at ho' ⊢;simp only at ho';rw [hob] at ho'; cases ho'; exact ⟨rfl,rfl,rfl⟩
  · intro q hq;rw [xzq.1 hq];refine ⟨?_,hnd',rfl,fun b hb=>⟨hOw.lt b hb,?_,.inr ((hW b).2 ?_)⟩⟩
    · show Ow P w' Z (.sl te (rows.set i (splice row off cs))) _ _;rw [(xx (pl:=pl) hu' hmem).1,(xx (pl:=pl) hu' hmem).2.2];exact hOw
    · rcases xzn.1 hb with rfl|hb
      · exact (R.lt n hn _ hgown).2.1
      · rcases hsub b hb with h|h
        · exact (R.lt n hn b (by rw [hown]; exact xzp _ h)).2.1
        · exact (hlt2 b h).2
    · rcases xzn.1 hb with rfl|hb
      · exact .inl hgown
      · rcases hsub b hb with h|h
        · exact .inl (by rw [hown]; exact xzp _ h)
        · exact .inr (hin2 b h)
  · intro q hq q' hq' hne;rw [xzq.1 hq,xzq.1 hq'] at hne;exact absurd rfl hne
  · intro d _; exact ⟨trivial,rfl⟩
  · intro j hj q hq r' hr';rw [xzq.1 hq] at hr'; cases hr'
  · intro j hj q hq _;rw [xzq.1 hq];intro hb;rcases xzn.1 hb with e|hb
    · exact R.ioa j hj n te rows p hob (by rw [e]; exact hgown)
    · rcases hsub _ hb with h|h
      · exact R.ioa j hj n te rows p hob (by rw [hown]; exact xzp _ h)
      · obtain ⟨m,hm,hbm⟩:=hin2 _ h;obtain ⟨t,r,q',hl⟩:=hmhas m hm;exact R.ioa j hj m t r q' hl hbm
 unfold Oper.wp;rw [hrun];exact hK _ _ _ _ S
end
end Go.AM
end
section
namespace Go.AM
open Go
theorem RdO.mem {ro:List (Nat × Ob)} {st:St} (h:RdO ro st) {n:Nat} {o:Ob} (hl:lk ro n=some o):lk st.s n=some o:=h (n,o) (ym hl)
theorem Sup.mono {pl:Pl} {Z:Nat->Prop} {ns ns':List Nat} (h:∀ n∈ns,n∈ns') {b:Nat} (hb:Sup pl Z ns b):Sup pl Z ns' b:=by
 rcases hb with hb|⟨n,hn,hb⟩
 · exact .inl hb
 · exact .inr ⟨n,h n hn,hb⟩
def LendOk (st:St) (v a:AV) (ns:List Nat) (ro:List (Nat × Ob)):Prop :=
 RdO ro st/\(∀ n∈ns,∃ o,lk ro n=some o)/\∀ (P:Program) (cx:Cx) (st':St) (act:Act) (w:World) (pl:Pl) (Z:Nat->Prop),Rel P cx st' act w pl Z->RdO ro st'->∀ x,Ar P st' pl Z w v x->Rd P w (Sup pl Z ns) a x
theorem vy {st:St}:∀ {ns:List Nat} {k:List (Nat × Ob)->Prop},alive st ns k->∃ ro,k ro/\RdO ro st/\(∀ n∈ns,∃ o,lk ro n=some o)
 | [],k,h=>⟨[],h,RdO.nil,by simp⟩
 | n::r,k,h=>by
   simp only [alive] at h
   split at h
   · rename_i o ho;obtain ⟨ro,h1,h2,h3⟩:=vy h;refine ⟨(n,o)::ro,h1,RdO.cons.2 ⟨ho,h2⟩,fun m hm=>?_⟩;rw [x4];rcases xzn.1 hm with rfl|hm
     · exact ⟨o,if_pos rfl⟩
     · split
       · exact ⟨o,rfl⟩
       · exact h3 m hm
   · exact h.elim
theorem xci {ro:List (Nat × Ob)} {st:St} (h:RdO ro st) {ns:List Nat} (hn:∀ n∈ns,∃ o,lk ro n=some o):∀ n∈ns,st.has n:=fun n hm=>by
 obtain ⟨o,ho⟩:=hn n hm;unfold St.has St.O; rw [h.mem ho]; rfl
theorem kz {st:St} {v:AV} {k:AV->List Nat->List (Nat × Ob)->Prop} (h:lend1 st v k):∃ a ns ro,k a ns ro/\LendOk st v a ns ro:=by
 cases v with
 | prim v=>exact ⟨_,_,_,h,RdO.nil,by simp,fun P cx st' act w pl Z R hr x hx=>by obtain ⟨rfl,h⟩:=hx; exact .prim h⟩
 | emp t =>
   refine ⟨_,_,_,h,RdO.nil,by simp,fun P cx st' act w pl Z R hr x hx=>?_⟩;rw [show x=.slice none 0 0 from hx];exact .sl (cells:=[]) (by simp) rfl (x0r _) (by simp) (by simp) (fun h=>absurd rfl h) (fun b o k x h=>by cases h) (fun k av x h=>by simp at h)
 | fr ns t rows =>
   obtain ⟨ro,h,h0,hn⟩:=vy h;exact ⟨_,_,_,h,h0,hn,fun P cx st' act w pl Z R hr x hx=>hx (xci hr hn)⟩
 | fp ns row o =>
   obtain ⟨ro,h,h0,hn⟩:=vy h;exact ⟨_,_,_,h,h0,hn,fun P cx st' act w pl Z R hr x hx=>hx (xci hr hn)⟩
 | ref n =>
   simp only [lend1] at h
   split at h
   · rename_i t rows p ho;refine ⟨_,_,_,h,RdO.cons.2 ⟨ho,RdO.nil⟩,fun m hm=>⟨.arr t rows p,by rw [x4,if_pos (xzq.1 hm).symm]⟩,fun P cx st' act w pl Z R hr x hx=>?_⟩;have ho':=(RdO.cons.1 hr).1;rw [hx t rows p ho'];have:Ow P w Z (.sl t rows) (pl.hdr n) (pl.own n):=R.obj n _ ho';exact this.rd (fun b hb=>.inr ⟨n,by simp,hb⟩) fun b hb=>.inl hb
   · exact h.elim
 | undef=>exact h.elim
 | na=>exact h.elim
 | sl t rows=>exact h.elim
 | ptr n i off=>exact h.elim
 | fn f caps=>exact h.elim
theorem kc {ro ro':List (Nat × Ob)} {ns ns':List Nat} (h:∀ n∈ns,∃ o,lk ro n=some o) (h':∀ n∈ns',∃ o,lk ro' n=some o):∀ n∈ns++ns',∃ o,lk (ro++ro') n=some o:=by
 intro n hn;rw [jr]
 cases hl:lk ro n with
 | some o=>exact ⟨o,rfl⟩
 | none =>
   rcases xzs.1 hn with hn|hn
   · obtain ⟨o,ho⟩:=h n hn; rw [hl] at ho; cases ho
   · obtain ⟨o,ho⟩:=h' n hn; exact ⟨o,by simpa using ho⟩
def LendsOk (st:St) (vs as1:List AV) (ns:List Nat) (ro:List (Nat × Ob)):Prop :=
 RdO ro st/\(∀ n∈ns,∃ o,lk ro n=some o)/\as1.length=vs.length/\∀ (P:Program) (cx:Cx) (st':St) (act:Act) (w:World) (pl:Pl) (Z:Nat->Prop),Rel P cx st' act w pl Z->RdO ro st'->∀ xs,Ars P st' pl Z w vs xs->Rds P w (Sup pl Z ns) as1 xs
theorem LendsOk.cons {st:St} {v a:AV} {vs as1:List AV} {ns ns':List Nat} {ro ro':List (Nat × Ob)} (h:LendOk st v a ns ro) (h':LendsOk st vs as1 ns' ro'):LendsOk st (v::vs) (a::as1) (ns++ns') (ro++ro'):=by
 obtain ⟨h1,h2,h3⟩:=h;obtain ⟨g1,g2,g3,g4⟩:=h';refine ⟨RdO.append.2 ⟨h1,g1⟩,kc h2 g2,by simp [g3],fun P cx st' act w pl Z R hr xs hx=>?_⟩;obtain ⟨hr1,hr2⟩:=RdO.append.1 hr
 match xs,hx with
 | [],hx=>exact absurd hx.1 (by simp)
 | x::xs,hx =>
   have e1:=(h3 P cx st' act w pl Z R hr1 x (hx.2 0 _ _ rfl rfl)).mono (S':=Sup pl Z (ns++ns')) (fun b hb=>Sup.mono (fun n hn=>xzt _ hn) hb) fun _ _=>rfl;have e2:=g4 P cx st' act w pl Z R hr2 xs ⟨by simpa using hx.1,fun k av y hk hy=>hx.2 (k+1) av y (by simpa using hk) (by simpa using hy)⟩;refine ⟨by simp [e2.1],fun k av y hk hy=>?_⟩
   cases k with
   | zero=>simp at hk hy; subst hk; subst hy; exact e1
   | succ k=>exact (e2.2 k av y (by simpa using hk) (by simpa using hy)).mono (fun b hb=>Sup.mono (fun n hn=>xzz _ hn) hb) fun _ _=>rfl
theorem xb3 {st:St}:∀ {vs:List AV} {k:List AV->List Nat->List (Nat × Ob)->Prop},lends st vs k->∃ as1 ns ro,k as1 ns ro/\LendsOk st vs as1 ns ro
 | [],k,h=>⟨_,_,_,h,RdO.nil,by simp,rfl,fun P cx st' act w pl Z R hr xs hx=>⟨hx.1,fun k av x hk=>by simp at hk⟩⟩
 | v::r,k,h=>by
   obtain ⟨a,ns,ro,h,h1⟩:=kz h;obtain ⟨as1,ns',ro',h,h2⟩:=xb3 h;exact ⟨_,_,_,h,LendsOk.cons h1 h2⟩
theorem xhc {P:Program} {st:St} {pl:Pl} {Z:Nat->Prop} {w:World} {v:AV} {x:Value} (h:A0 P st pl Z w v x) (hv:noFn v=true):Ar P st pl Z w v x:=by
 cases v<;>first|exact h|cases hv
theorem xih {st:St} {v:AV} {k:AV->List Nat->List (Nat × Ob)->Prop} (h:lendCap0 st v k):∃ a ns ro,k a ns ro/\LendOk st v a ns ro:=by
 unfold lendCap0 at h
 split at h
 · rename_i n o
   split at h
   · rename_i row ho;obtain ⟨as1,ns,ro,h,h1,h2,h2',h3⟩:=xb3 h;refine ⟨_,_,_,h,RdO.cons.2 ⟨ho,h1⟩,fun m hm=>?_,fun P cx st' act w pl Z R hr x hx=>?_⟩
     · rw [x4];rcases xzn.1 hm with rfl|hm
       · exact ⟨_,if_pos rfl⟩
       · split
         · exact ⟨_,rfl⟩
         · exact h2 m hm
     · obtain ⟨hr1,hr2⟩:=RdO.cons.1 hr;rw [hx _ hr1];obtain ⟨hown,c,ty,hc,hsz,hcell⟩:=R.obj n _ hr1;let xs:=(c.toList.drop (pl.adr n).2).take row.length;have hxl:xs.length=row.length:=by simp [xs]; omega
       have hars:Ars P st' pl Z w row xs:=⟨hxl,fun k av y hk hy=>by
        obtain ⟨_,hy'⟩:=zi hy
        exact hcell k av y hk (by simpa using hy')⟩
       have hrd:=h3 P cx st' act w pl Z R hr2 xs hars;refine .fp (o:=(pl.adr n).2) (cells:=xs) (.inr ⟨n,by simp,by rw [hown]; exact xzq.2 rfl⟩) (by rw [hxl,h2']) (fun k x hk=>?_) fun k av y hk hy=>?_
       · obtain ⟨_,hk'⟩:=zi hk;rw [cell_of_row w _ _ c ty (0,0) hc];simpa using hk'
       · exact (hrd.2 k av y hk hy).mono (fun b hb=>Sup.mono (fun n hn=>xzp _ hn) hb) fun _ _=>rfl
   · exact h.elim
 · exact kz h
theorem xbo {st:St}:∀ {vs:List AV} {k:List AV->List Nat->List (Nat × Ob)->Prop},lendCaps0 st vs k->∃ as1 ns ro,k as1 ns ro/\LendsOk st vs as1 ns ro
 | [],k,h=>⟨_,_,_,h,RdO.nil,by simp,rfl,fun P cx st' act w pl Z R hr xs hx=>⟨hx.1,fun k av x hk=>by simp at hk⟩⟩
 | v::r,k,h=>by
   obtain ⟨a,ns,ro,h,h1⟩:=xih h;obtain ⟨as1,ns',ro',h,h2⟩:=xbo h;exact ⟨_,_,_,h,LendsOk.cons h1 h2⟩
theorem xy2 {P:Program} {st st':St} {cx:Cx} {act:Act} {w:World} {pl:Pl} {Z:Nat->Prop} {f:Nat} {caps as1:List AV} {ns:List Nat} {ro:List (Nat × Ob)} (h4:∀ (P:Program) (cx:Cx) (st':St) (act:Act) (w:World) (pl:Pl) (Z:Nat->Prop),Rel P cx st' act w pl Z->RdO ro st'->∀ xs,Ars P st' pl Z w caps xs->Rds P w (Sup pl Z ns) as1 xs)
 (R:Rel P cx st' act w pl Z) (hr:RdO ro st') {x:Value} (hx:Ar P st' pl Z w (.fn f caps) x):Rd P w (Sup pl Z ns) (.fn f as1) x:=by
 obtain ⟨arr,rfl,hl,hc⟩:=hx;by_cases hcap:∀ c∈caps,noFn c=true
 · have:=h4 P cx st' act w pl Z R hr arr ⟨hl,fun k av y hk hy=>xhc (hc k av y hk hy) (hcap _ (xzy hk))⟩;exact .fn this.1 this.2
 · exfalso;simp only [Classical.not_forall,x3z] at hcap;obtain ⟨c,hc',hn⟩:=hcap;obtain ⟨k,hk,rfl⟩:=x0h.1 hc';have:=hc k _ _ (xzh hk) (xzh (hl▸hk));generalize caps[k]=c at this hn
   cases c<;>first|exact this|cases hn
theorem xb4 {st:St}:∀ {vs:List AV} {k:List AV->List Nat->List (Nat × Ob)->Prop},lendB st vs k->∃ as1 ns ro,k as1 ns ro/\LendsOk st vs as1 ns ro
 | [],k,h=>⟨_,_,_,h,RdO.nil,by simp,rfl,fun P cx st' act w pl Z R hr xs hx=>⟨hx.1,fun k av x hk=>by simp at hk⟩⟩
 | v::r,k,h=>by
   have one:lend1 st v (fun a ns ro=>lendB st r fun as1 ns' ro'=>k (a::as1) (ns++ns') (ro++ro'))->∃ as1 ns ro,k as1 ns ro/\LendsOk st (v::r) as1 ns ro:=fun h=>by
    obtain ⟨a,ns,ro,h,h1⟩:=kz h;obtain ⟨as1,ns',ro',h,h2⟩:=xb4 h;exact ⟨_,_,_,h,LendsOk.cons h1 h2⟩
   cases v with
   | fn f caps =>
     simp only [lendB] at h;obtain ⟨cs,ns,ro,h,h1,h2,h3,h4⟩:=xbo h;obtain ⟨as1,ns',ro',h,h5⟩:=xb4 h;exact ⟨_,_,_,h,LendsOk.cons (a:=.fn f cs) ⟨h1,h2,fun P cx st' act w pl Z R hr x hx=>xy2 (st:=st) h4 R hr hx⟩ h5⟩
   | _=>exact one h
theorem xdx {st:St} {v:AV} {k:AV->List Nat->List (Nat × Ob)->Prop} (h:lendCap st v k):∃ a ns ro,k a ns ro/\LendOk st v a ns ro:=by
 unfold lendCap at h
 split at h
 · rename_i n o
   split at h
   · rename_i row ho;obtain ⟨as1,ns,ro,h,h1,h2,h2',h3⟩:=xb4 h;refine ⟨_,_,_,h,RdO.cons.2 ⟨ho,h1⟩,fun m hm=>?_,fun P cx st' act w pl Z R hr x hx=>?_⟩
     · rw [x4];rcases xzn.1 hm with rfl|hm
       · exact ⟨_,if_pos rfl⟩
       · split
         · exact ⟨_,rfl⟩
         · exact h2 m hm
     · obtain ⟨hr1,hr2⟩:=RdO.cons.1 hr;rw [hx _ hr1];obtain ⟨hown,c,ty,hc,hsz,hcell⟩:=R.obj n _ hr1;let xs:=(c.toList.drop (pl.adr n).2).take row.length;have hxl:xs.length=row.length:=by simp [xs]; omega
       have hars:Ars P st' pl Z w row xs:=⟨hxl,fun k av y hk hy=>by
        obtain ⟨_,hy'⟩:=zi hy
        exact hcell k av y hk (by simpa using hy')⟩
       have hrd:=h3 P cx st' act w pl Z R hr2 xs hars;refine .fp (o:=(pl.adr n).2) (cells:=xs) (.inr ⟨n,by simp,by rw [hown]; exact xzq.2 rfl⟩) (by rw [hxl,h2']) (fun k x hk=>?_) fun k av y hk hy=>?_
       · obtain ⟨_,hk'⟩:=zi hk;rw [cell_of_row w _ _ c ty (0,0) hc];simpa using hk'
       · exact (hrd.2 k av y hk hy).mono (fun b hb=>Sup.mono (fun n hn=>xzp _ hn) hb) fun _ _=>rfl
   · exact h.elim
 · exact kz h
theorem xcj {st:St}:∀ {vs:List AV} {k:List AV->List Nat->List (Nat × Ob)->Prop},lendCaps st vs k->∃ as1 ns ro,k as1 ns ro/\LendsOk st vs as1 ns ro
 | [],k,h=>⟨_,_,_,h,RdO.nil,by simp,rfl,fun P cx st' act w pl Z R hr xs hx=>⟨hx.1,fun k av x hk=>by simp at hk⟩⟩
 | v::r,k,h=>by
   obtain ⟨a,ns,ro,h,h1⟩:=xdx h;obtain ⟨as1,ns',ro',h,h2⟩:=xcj h;exact ⟨_,_,_,h,LendsOk.cons h1 h2⟩
def LendVOk (st:St) (v a:TV) (ns:List Nat) (ro:List (Nat × Ob)):Prop :=
 RdO ro st/\(∀ n∈ns,∃ o,lk ro n=some o)/\∀ (P:Program) (cx:Cx) (st':St) (act:Act) (w:World) (pl:Pl) (Z:Nat->Prop) (S:Nat->Prop),Rel P cx st' act w pl Z->RdO ro st'->(∀ b,Sup pl Z ns b->S b)->∀ x io,Tr P st' pl Z w v x->InR P w S io .pure a x []
theorem xnk {st:St} {v:TV} {k:TV->List Nat->List (Nat × Ob)->Prop} (h:lendV st v k):∃ a ns ro,k a ns ro/\LendVOk st v a ns ro:=by
 have one:∀ {v a:AV} {ns:List Nat} {ro:List (Nat × Ob)},LendOk st v a ns ro->LendVOk st (.one v) (.one a) ns ro:=by
  intro v a ns ro ⟨h1,h2,h3⟩;exact ⟨h1,h2,fun P cx st' act w pl Z S R hr hS x io hx=>.pone ((h3 P cx st' act w pl Z R hr x hx).mono hS fun _ _=>rfl)⟩
 unfold lendV at h
 split at h
 · rename_i f caps;obtain ⟨as1,ns,ro,h,h1,h2,h3,h4⟩:=xcj h;refine ⟨_,_,_,h,h1,h2,fun P cx st' act w pl Z S R hr hS x io hx=>.pone ?_⟩;obtain ⟨arr,rfl,hl,hc⟩:=hx;by_cases hcap:∀ c∈caps,noFn c=true
   · have:=h4 P cx st' act w pl Z R hr arr ⟨hl,fun k av y hk hy=>xhc (hc k av y hk hy) (hcap _ (xzy hk))⟩;exact .fn this.1 fun k av y hk hy=>(this.2 k av y hk hy).mono hS fun _ _=>rfl
   · exfalso;simp only [Classical.not_forall,x3z] at hcap;obtain ⟨c,hc',hn⟩:=hcap;obtain ⟨k,hk,rfl⟩:=x0h.1 hc';have:=hc k _ _ (xzh hk) (xzh (hl▸hk));generalize caps[k]=c at this hn
     cases c<;>first|exact this|cases hn
 · obtain ⟨a,ns,ro,h,h1⟩:=xdx h;exact ⟨_,_,_,h,one h1⟩
 · obtain ⟨a,ns,ro,h,h1⟩:=kz h;exact ⟨_,_,_,h,one h1⟩
 · obtain ⟨as1,ns,ro,h,h1,h2,h3,h4⟩:=xb3 h;refine ⟨_,_,_,h,h1,h2,fun P cx st' act w pl Z S R hr hS x io hx=>?_⟩;obtain ⟨xs,rfl,hx⟩:=hx;have:=h4 P cx st' act w pl Z R hr xs hx;exact .pagg ⟨this.1,fun k av y hk hy=>(this.2 k av y hk hy).mono hS fun _ _=>rfl⟩
 · exact h.elim
def GathOk (st:St) (vs:List TV) (del:List Nat) (ins:List (Mode × TV)) (lent:List Nat) (ro:List (Nat × Ob)) (ds:List Nat):Prop :=
 RdO ro st/\(∀ n∈lent,∃ o,lk ro n=some o)/\ds.Nodup/\(∀ m∈ds,m ∉ del)/\(∀ m∈ds,∃ t rows,lk ro m=some (.arr t rows false)) /\
  ∀
   (P:Program) (cx:Cx) (st':St) (a:Act) (w:World) (pl:Pl) (Z:Nat->Prop) (S:Nat->Prop),Rel P cx st' a w pl Z->RdO ro st'->(∀ b,Sup pl Z lent b->S b)->∀ (io:Option Io) (xs:List Value),xs.length=vs.length ->
   (∀ (j:Nat) (v:TV) (x:Value),vs[j]?=some v->xs[j]?=some x->Tr P st' pl Z w v x)->InsR P w S io ins xs (ds.flatMap pl.own)
theorem j2 {st:St}:∀ {ms:List Mode} {vs:List TV} {del:List Nat} {k:List (Mode × TV)->List Nat->List (Nat × Ob)->List Nat->Prop},gath st ms vs del k ->
 ∃ (ins:List (Mode × TV)) (lent:List Nat) (ro:List (Nat × Ob)) (ds:List Nat),k ins lent ro (ds.reverse++del)/\GathOk st vs del ins lent ro ds
 | ms,[],del,k,h=>⟨[],[],[],[],by simpa [gath] using h,RdO.nil,by simp,x09,by simp,by simp,fun P cx st' a w pl Z S R hr hS io xs hl hx=>by
    have:xs=[]:=x0k (by simpa using hl)
    subst this; exact .nil⟩
 | ms,v::r,del,k,h=>by
   have own:∀ {v:TV} {cells:List AV} {mk:List AV->TV},rowCells st cells del (fun cs ro d=>gath st ms.tail r d fun ins lent ro' d'=>k ((.own,mk cs)::ins) lent (ro++ro') d') ->
    (∀ (cs:List AV) (P:Program) (st':St) (w:World) (pl:Pl) (Z S:Nat->Prop) (io:Option Io) (x:Value) (f:List Nat),cs.length=cells.length->(∀ b,Z b->S b)->Tr P st' pl Z w v x ->
      (∀ xs,Ars P st' pl Z w cells xs->Ows P w Z cs xs f)->InR P w S io .own (mk cs) x f) ->
    ∃ (ins:List (Mode × TV)) (lent:List Nat) (ro:List (Nat × Ob)) (ds:List Nat),k ins lent ro (ds.reverse++del)/\GathOk st (v::r) del ins lent ro ds:=by
    intro v cells mk h hin;obtain ⟨row,ro,dd,h,h1,h2,h3,h4,h5,h6⟩:=zc h;obtain ⟨ins,lent,ro',ds,h,g1,g2,g3,g4,g5,g6⟩:=j2 h;refine ⟨(.own,mk row)::ins,lent,ro++ro',dd++ds,by simpa [x3l,x0c] using h,RdO.append.2 ⟨h1,g1⟩,fun n hn=>?_,?_,?_,?_,?_⟩
    · exact kc (ns:=[]) (by simp) g2 n (by simpa using hn)
    · exact x0j.2 ⟨h3,g3,fun p hp q hq e=>by subst e; exact g4 p hq (by simp [hp])⟩
    · intro q hq;rcases xzs.1 hq with hq|hq
      · exact h4 q hq
      · exact fun hd=>g4 q hq (by simp [hd])
    · intro q hq;rw [jr];rcases xzs.1 hq with hq|hq
      · obtain ⟨t,rows,e⟩:=h5 q hq; exact ⟨t,rows,by rw [e]; rfl⟩
      · obtain ⟨t,rows,e⟩:=g5 q hq
        cases hl:lk ro q with
        | none=>exact ⟨t,rows,by simpa using e⟩
        | some o =>
          have e1:=h1.mem hl;have e2:=g1.mem e;rw [e1] at e2;exact ⟨t,rows,by simpa using e2⟩
    · intro P cx st' a w pl Z S R hr hS io xs hl hx;obtain ⟨hr1,hr2⟩:=RdO.append.1 hr
      match xs,hl with
      | x::xs,hl =>
        have hrest:=g6 P cx st' a w pl Z S R hr2 hS io xs (by simpa using hl) fun j v x hv hx'=>hx (j+1) v x (by simpa using hv) (by simpa using hx');rw [x1b];refine .cons (hin row P st' w pl Z S io x _ h2 (fun b hb=>hS b (.inl hb)) (hx 0 _ _ rfl rfl) fun ys hys=>?_) hrest;obtain ⟨fs,e1,e2,e3⟩:=h6 P cx st' a w pl Z R hr1 ys hys;exact ⟨fs,e2.symm,e1,by rw [hys.1,h2],e3⟩
   have hmono:∀ {P:Program} {w:World} {Z S:Nat->Prop} {cs:List AV} {xs:List Value} {f:List Nat},(∀ b,Z b->S b)->Ows P w Z cs xs f->Ows P w S cs xs f:=by
    intro P w Z S cs xs f hZ ⟨fs,e1,e2,e3,e4⟩;exact ⟨fs,e1,e2,e3,fun k av x g h1 h2 h3=>(e4 k av x g h1 h2 h3).mono hZ (fun _ _=>rfl) (fun _ _=>rfl)⟩
   simp only [gath] at h
   split at h
   · rename_i b hm;refine own (v:=.one b) (mk:=fun cs=>mkTV false cs) h fun cs P st' w pl Z S io x f hl hZ hx hys=>?_
     match cs,hl with
     | [c],_ =>
       obtain ⟨fs,e1,e2,e3,e4⟩:=hmono hZ (hys [x] ⟨rfl,fun k av y hk hy=>by
        cases k with
        | zero=>simp at hk hy; subst hk; subst hy; exact hx
        | succ k=>simp at hk⟩)
       match fs,e2 with
       | [g],_ =>
         simp at e1; subst e1;exact .oone (e4 0 c x _ rfl rfl rfl)
   · rename_i as1 hm;refine own (v:=.agg as1) (mk:=fun cs=>.agg cs) h fun cs P st' w pl Z S io x f hl hZ hx hys=>?_;obtain ⟨xs,rfl,hxs⟩:=hx;exact .oagg (hmono hZ (hys xs hxs))
   · rename_i v hm;obtain ⟨a,ns,ro,h,h1,h2,h3⟩:=xnk h;obtain ⟨ins,lent,ro',ds,h,g1,g2,g3,g4,g5,g6⟩:=j2 h;refine ⟨(.pure,a)::ins,ns++lent,ro++ro',ds,h,RdO.append.2 ⟨h1,g1⟩,kc h2 g2,g3,g4,fun q hq=>?_,fun P cx st' act w pl Z S R hr hS io xs hl hx=>?_⟩
     · rw [jr];obtain ⟨t,rows,e⟩:=g5 q hq
       cases hl:lk ro q with
       | none=>exact ⟨t,rows,by simpa using e⟩
       | some o =>
         have e1:=h1.mem hl;have e2:=g1.mem e;rw [e1] at e2;exact ⟨t,rows,by simpa using e2⟩
     · obtain ⟨hr1,hr2⟩:=RdO.append.1 hr
       match xs,hl with
       | x::xs,hl =>
         have hrest:=g6 P cx st' act w pl Z S R hr2 (fun b hb=>hS b (Sup.mono (fun n hn=>xzz _ hn) hb)) io xs (by simpa using hl) fun j v x hv hx'=>hx (j+1) v x (by simpa using hv) (by simpa using hx');exact .cons (f:=[]) (h3 P cx st' act w pl Z S R hr1 (fun b hb=>hS b (Sup.mono (fun n hn=>xzt _ hn) hb)) x io (hx 0 _ _ rfl rfl)) hrest
   · exact h.elim
end Go.AM
end
