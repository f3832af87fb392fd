/- The law FnClkFold: part 6 of 9. No conditions beyond the statement. -/
import Derived.ProofKit
import Derived.OpenShut
import Derived.ShutString
import Derived.ChangeOld
import Derived.Carry
import Derived.SizedLaws
import Derived.Lib.LaidU8
import Derived.LaidMore
import Derived.Handed
import Derived.MakeChecks
import Derived.Lay
import Derived.LaidOnce
import Derived.SevenTiedAt
import Derived.Shelf.Strings.Builder1
import Derived.Shelf.Strings.BuilderF
import Derived.Shelf.Strings.BuilderK
import Derived.Shelf.Strconv.Itoa0
import Derived.Shelf.Strconv.Itoa1
import Derived.Shelf.LaysM
import Derived.Shelf.Strconv.Itoa2
import Derived.Shelf.Strconv.Itoa3
import Derived.Shelf.Strings.BuilderCap
import Derived.Shelf.Slices.Equal
import Derived.Ground.Names2Prog
import Derived.Shelf.Slices.Clone
import Derived.Shelf.Slices.Empties2
import Derived.Lib.AppendIntMem
import Derived.BigCall
import Derived.Laws.Strings
import Derived.Shelf.Spec.SlicesGrow
import Derived.Test.YtnigojkdmmeglaaGreatDoorClf4
import Derived.Test.YtnigojkdmmeglaaGreatDoorClf5
set_option linter.unusedVariables false
set_option linter.unusedSimpArgs false
section
namespace Go.AM
open Go Go.RowKit Go.ChangeShapes Go.WideShapes Go.ChangeAt
set_option maxRecDepth 100000
set_option linter.unusedVariables false
theorem xxj {n:Int} (h:(Lit.int .u8 n).wf=true):0≤n∧n≤255:=by
 simpa [Lit.wf,IntKind.min,IntKind.max,IntKind.signed,IntKind.bits] using h
theorem xt7 {n:Int} (h:0≤n∧n≤255):((UInt8.ofNat n.toNat).toNat:Int)=n:=by simp; omega
theorem xfm:(P:Program).cellsOf 5=1:=by kernel_rfl
theorem xj6 {W:World} {S:Nat→Prop} {a:Option Addr} {len cap:Nat} {zs:List Int}
 (h:(a=none∧len=0∧cap=0∧zs=[])∨∃ x,a=some x∧len≤cap∧zs.length=cap∧(∀ i,i<zs.length→W.cell? (x.add i)=some (.int .u8 (zs.getD i 0)))∧∀ n∈zs,(Lit.int .u8 n).wf=true)
 (hlen:len≤1125899906842624) (hS:∀ b,b<W.heap.size→S b):∃ bs:List UInt8,Rd P W S (.sl 5 (bytesRows bs)) (.slice a len cap):=by
 rcases h with ⟨rfl,rfl,rfl,rfl⟩|⟨x,rfl,hl,hz,hc,hw⟩
 · exact ⟨[],.sl (cells:=[]) (by decide) rfl (Nat.le_refl _) (by simp [bytesRows]) (by simp [bytesRows]) (fun h=>absurd rfl h) (fun b o k x h=>by cases h) (fun k av x h=>by simp [bytesRows] at h)⟩
 · have hbl:∀ l:List UInt8,(bytesRows l).length=l.length:=fun l=>List.length_map ..
   have hlz:(zs.take len).length=len:=by rw [List.length_take]; omega
   refine ⟨(zs.take len).map fun n=>UInt8.ofNat n.toNat,.sl (cells:=(zs.take len).map (Value.int .u8)) ?_ ?_ hl ?_ ?_ (fun hne=>?_) (fun b o k v e hv=>?_) (fun k av v h1 h2=>?_)⟩
   · rw [hbl,List.length_map,hlz]; exact hlen
   · rw [hbl,List.length_map,hlz]
   · intro row hr
     obtain ⟨b,_,rfl⟩:=List.mem_map.1 hr
     rw [xfm]; rfl
   · rw [hbl,xfm,List.length_map,List.length_map,Nat.mul_one]
   · have hp:0<len:=by
      cases len with
      | zero=>exact absurd (by simp [bytesRows]) hne
      | succ n=>omega
     obtain ⟨b,off,rfl,hcell⟩:=ints_at hc (by omega)
     refine ⟨b,off,rfl,hS b ?_⟩
     have:=hcell 0 (by omega)
     by_cases hb:b<W.heap.size
     · exact hb
     · rw [World.cell?,Array.getElem?_eq_none (by simpa using hb)] at this; cases this
   · obtain rfl:=Option.some.inj e
     have hk:k<len:=by have:=(List.getElem?_eq_some_iff.1 hv).1; rw [List.length_map,hlz] at this; exact this
     rw [List.getElem?_map,List.getElem?_take,if_pos hk] at hv
     have hkz:k<zs.length:=by omega
     rw [List.getElem?_eq_getElem hkz] at hv
     obtain rfl:=Option.some.inj hv
     have:=hc k hkz
     rw [List.getD_eq_getElem?_getD,List.getElem?_eq_getElem hkz,Go.WideShapes.add_plain] at this
     exact this
   · rw [xf8,List.map_map,List.getElem?_map] at h1
     rw [List.getElem?_map] at h2
     cases hz':(zs.take len)[k]? with
     | none=>rw [hz'] at h1; cases h1
     | some n =>
       rw [hz'] at h1 h2
       obtain rfl:=Option.some.inj h1
       obtain rfl:=Option.some.inj h2
       have:=xt7 (xxj (hw n (List.mem_of_mem_take (List.mem_of_getElem? hz'))))
       simp only [Function.comp,this]
       exact .prim rfl
theorem xrr {w w':World} (h:Frm w w' [] none):Below w.heap.size w w' :=
 ⟨h.os,h.tape,h.output,h.size,fun k hk=>h.blk k hk (by simp) fun i hi=>by cases hi⟩
theorem xrs:((List.range (P:Program).globals.size).all fun g=>(((begin P (fun _ _=>0) default).world.heap[g]?).bind Obj.row?).isSome)=true:=by kernel_rfl
theorem xvx {W:World} (h:W.ShapedOpen P) {b:Nat} (hb:b<(P:Program).globals.size):b<W.heap.size:=by
 have h1:=List.all_eq_true.1 xrs b (List.mem_range.2 hb)
 cases hr:((begin P (fun _ _=>0) default).world.heap[b]?).bind Obj.row? with
 | none=>rw [hr] at h1; cases h1
 | some zt =>
   obtain ⟨z,t⟩:=zt
   obtain ⟨cs,h2,_⟩:=h.1 b z t hb hr
   exact (Array.getElem?_eq_some_iff.1 h2).1
theorem xrt {W:World} (h:Facts P W):GOk P W fun b=>b<W.heap.size:=⟨W,h,fun b hb=>⟨xvx h.1 hb,rfl⟩⟩
theorem xe5 {W:World} {name:String} {k:IntKind} {zs:List Int} {g:Nat} {t e:TypeId} {n:Nat}
 (hg:(P:Program).globalNamed name=some g) (hty:((P:Program).globals[g]?).map (·.type)=some t) (ht:(P:Program).underlying t=some (.array n e)) (he:(P:Program).underlying e=some (.int k)) (hce:(P:Program).cellsOf e=1) (hct:(P:Program).cellsOf t=n) :
 ∀ {l:List (String × DataW Unit)} {ps:List MemPlace},(name,Lib.tabData k zs)∈l→DataW.LaidVars P W l ps→Lib.TabIs P W name k zs
 | [],_,h,_=>by cases h
 | (n', d') :: r, ps, hm, h => by
   obtain ⟨g',t',cs,fuel,p,q,hg',ht',hvar,hd,hrest,_⟩:=h
   rcases List.mem_cons.1 hm with h0|h0
   · cases h0
     obtain rfl:=Option.some.inj (hg.symm.trans hg')
     obtain rfl:=Option.some.inj (hty.symm.trans ht')
     unfold Lib.TabIs
     rw [hvar,← Lib.cells_of_tab ht he hce hct hd]
   · exact xe5 hg hty ht he hce hct h0 hrest
theorem xhn {H:Type} {enc:TypeId × Value→H} {a:Assume} {C:Checked} {os:Os} {f:FuncId} {fn:Func} {s:ChangeSpec} {conds:List PathCond} {apart fresh handsOn again:Bool} {X:World→Array Value→Prop}
 (hX:∀ (w w':World) (args:Array Value),w.heap=w'.heap→X w args→X w' args)
 (own:ownKnob C.prog.godebug=none) (started:os.Started) (noInit:C.prog.inits.idxOf? f=none) (hfn:C.prog.funcs[f]?=some fn)
 (witness:∃ (w:World) (tape:Tape) (i:Input),w.os=os∧(w.forCall tape i).Shaped C.prog∧i.vars=[]∧Input.okWide C.prog (w.forCall tape i) .any w.heap.size f i ∧
   ((s.pre enc C.prog fn conds apart (w.forCall tape i).memory i.args∧X (w.forCall tape i).memory i.args)∧sizedMet enc C.prog fn (OpenSpec.ofChange s) apart (w.forCall tape i).memory i.args)∧a.holds C.prog (lone (Frame.enter C.prog f i.args .normal) [] (w.forCall tape i)))
 (contract:∀ (W:World) (base:Nat) (args:Array Value) (ds gs:List (DataW H)) (before:List MemPlace),
   (∀ (j:Nat) t v,fn.params[j]?=some t→args[j]?=some v→Value.okWide C.prog W .any base t v) →
   DataW.Whole enc C.prog fn.params.toList s.vars apart W args.toList ds gs before →
   (DataW.weightsEach C.prog (fn.params.toList++s.plain.varTypes C.prog) (ds++gs)).all (·≤reachBytes)=true→X W args→W.ShapedOpen C.prog →
   Calls C.prog f args W fun e W'=>∃ v,e=.returned v∧s.post enc C.prog fn apart fresh handsOn again W args v W') :
 ReturnsInHanded a C os f .any (fun w args=>(s.pre enc C.prog fn conds apart w args∧X w args)∧sizedMet enc C.prog fn (OpenSpec.ofChange s) apart w args) (s.post enc C.prog fn apart fresh handsOn again):=by
 refine returnsInHanded_of_calls own started noInit witness ?_
 intro w tape i _ hsh _ hok hpre _
 obtain ⟨_,_,_,fn',hfn',_,_,_,_,hval⟩:=hok
 have e:fn'=fn:=Option.some.inj (hfn'.symm.trans hfn)
 subst e
 obtain ⟨⟨⟨ds,gs,before,hw,hc⟩,hx⟩,hz⟩:=hpre
 have hw':=DataW.Whole.of_heap (w':=w.forCall tape i) (by rfl) hw
 refine (contract (w.forCall tape i) w.heap.size i.args ds gs before hval hw' (hz.weights hw) (hX _ _ _ (by rfl) hx) hsh).mono fun e W' ⟨v,he,hp⟩=>?_
 subst he
 exact ChangeSpec.post_blind hp
theorem xmh {H:Type} {enc:TypeId × Value→H} {W:World} {base:Nat} {t:TypeId} {a:Option Addr} {len cap:Nat} {d:DataW H} {ps:List MemPlace} {ts:List TypeId} {ds:List (DataW H)} {j:Nat}
 (hsz:(DataW.weightsEach P ts ds).all (·≤reachBytes)=true) (ht:ts[j]?=some t) (hd:ds[j]?=some d) (hu:(P:Program).underlying t=some (.slice 5)) (he:(P:Program).underlying 5=some (.int .u8))
 (h:DataW.Trod enc P W base (fun _=>true) true t (.slice a len cap) d ps):∃ bs:List UInt8,Rd P W (fun b=>b<W.heap.size) (.sl 5 (bytesRows bs)) (.slice a len cap):=by
 obtain ⟨fuel,hf⟩:=h
 have hB:(P:Program).bytesOf 5=1:=by kernel_rfl
 rcases open_ints hu he xfm hf with ⟨hcs,_⟩|⟨x,l,c,zs,hcs,_,hl,hm,hz,hx,hcell,hwz⟩
 · simp [Value.cells] at hcs
   obtain ⟨rfl,rfl,rfl⟩:=hcs
   exact xj6 (zs:=[]) (.inl ⟨rfl,rfl,rfl,rfl⟩) (by decide) fun b hb=>hb
 · simp [Value.cells] at hcs
   obtain ⟨rfl,rfl,rfl⟩:=hcs
   have hlen:len≤1125899906842624:=by
    simp only [Prod.mk.injEq] at hx
    have:=sized_slice hsz ht (by rw [hd,hx.1]) hu
    rw [hB] at this
    have h2:=reachBytes_lt
    simp [lits] at this
    simp at hz
    omega
   exact xj6 (zs:=zs) (.inr ⟨x,rfl,hl,by simpa using hz,hcell,hwz⟩) hlen fun b hb=>hb
end Go.AM
end
section
namespace Cc
structure Form where
 C:List Int
 D:List Int
 K:Int
 deriving DecidableEq,Inhabited
structure Line where
 Kind:Int
 Pot:Int
 Skip:Int
 Form:Form
 deriving DecidableEq,Inhabited
structure Rslt where
 Code:Int
 Tells:List Int
 deriving DecidableEq,Inhabited
structure Row where
 Guards:List Form
 Adds:List Form
 Tells:List Form
 Stop:Bool
 deriving DecidableEq,Inhabited
structure Treaty where
 Base:List Int
 Gives:List Int
 deriving DecidableEq,Inhabited
structure Plan where
 Clients:Int
 Acts:List (List Line)
 Gives:List Int
 Start:List Int
 deriving DecidableEq,Inhabited
structure Call where
 Client:Int
 Seq:Int
 Act:Int
 Args:List Int
 deriving DecidableEq,Inhabited
structure Done where
 Seq:Int
 Res:Rslt
 deriving DecidableEq,Inhabited
structure Msg where
 Kind:Int
 To:Int
 From:Int
 Round:Int
 Call:Call
 Vals:List Int
 Seqs:List Int
 Done:List Done
 deriving DecidableEq,Inhabited
structure Site where
 Up:Bool
 Frozen:Bool
 Round:Int
 Base:List Int
 Added:List Int
 Done:List Done
 deriving DecidableEq,Inhabited
structure Got where
 Has:Bool
 Added:List Int
 Seqs:List Int
 deriving DecidableEq,Inhabited
structure Clerk where
 Up:Bool
 Round:Int
 Base:List Int
 Done:List Done
 Wants:List Call
 Got:List Got
 deriving DecidableEq,Inhabited
structure Client where
 Seq:Int
 Busy:Bool
 Call:Call
 Res:Rslt
 deriving DecidableEq,Inhabited
structure LogD where
 Call:Call
 Res:Rslt
 deriving DecidableEq,Inhabited
structure World where
 Plan:Plan
 Sites:List Site
 Clerk:Clerk
 Clients:List Client
 Net:List Msg
 Log:List LogD
 deriving DecidableEq,Inhabited
structure Event where
 Kind:Int
 At:Int
 Act:Int
 Args:List Int
 deriving DecidableEq,Inhabited
def Form.nil:Form:=⟨[],[],0⟩
def Rslt.nil:Rslt:=⟨0,[]⟩
def Call.nil:Call:=⟨0,0,0,[]⟩
def Done.nil:Done:=⟨0,Rslt.nil⟩
def Plan.nil:Plan:=⟨0,[],[],[]⟩
def Site.nil:Site:=⟨false,false,0,[],[],[]⟩
def Got.nil:Got:=⟨false,[],[]⟩
def Clerk.nil:Clerk:=⟨false,0,[],[],[],[]⟩
def Client.nil:Client:=⟨0,false,Call.nil,Rslt.nil⟩
def World.nil:World:=⟨Plan.nil,[],Clerk.nil,[],[],[]⟩
def Event.nil:Event:=⟨0,0,0,[]⟩
def inB (n lo hi:Int):Bool:=decide (lo≤n) && decide (n≤hi)
def within (l:List Int) (many:Nat) (most:Int):Bool:=decide (l.length=many) && l.all fun n=>inB n (-most) most
def Form.ok (f:Form):Bool:=within f.C 3 10000000 && within f.D 2 10000000 && inB f.K (-10000000) 10000000
def valOk (v:List Int):Bool:=within v 3 10000
def argOk (a:List Int):Bool:=within a 2 9
def Form.zero:Form:=⟨[0,0,0],[0,0],0⟩
def Form.pot (v:Nat):Form:=⟨[0,0,0].set v 1,[0,0],0⟩
def lin (a b:Form) (n:Int):Form:=⟨List.zipWith (fun x y=>x+n*y) a.C b.C,List.zipWith (fun x y=>x+n*y) a.D b.D,a.K+n*b.K⟩
def dot:List Int→List Int→Int
 | a::r,b::r'=>a*b+dot r r'
 | _,_=>0
def Form.at (f:Form) (vals args:List Int):Int:=dot f.C vals+dot f.D args+f.K
def into (f:Form) (pots:List Form):Form:=(List.zip f.C pots).foldl (fun x p=>lin x p.2 p.1) ⟨[0,0,0],f.D,f.K⟩
def Form.small (f:Form):Bool:=within f.C 3 2 && within f.D 2 2 && inB f.K (-20) 20
def Line.ok (l:Line):Bool :=
 if l.Kind=1 then inB l.Skip 1 6 && decide (l.Pot=0) && l.Form.small
 else if l.Kind=2 then inB l.Pot 0 2 && decide (l.Skip=0) && l.Form.small
 else if l.Kind=3 then decide (l.Pot=0) && decide (l.Skip=0) && l.Form.small
 else if l.Kind=4 then decide (l.Pot=0) && decide (l.Skip=0) && decide (l.Form=Form.nil)
 else false
def tests (act:List Line):Nat:=act.countP fun l=>decide (l.Kind=1)
def actOk (act:List Line):Bool:=act.all Line.ok && decide (act.length≤6) && decide (tests act≤3)
def goLines (args:List Int) (l:List Line) (own tells:List Int):Option (List Int × List Int) :=
 match l with
 | []=>some (own,tells)
 | x::r =>
   if x.Kind=4 then none
   else if x.Kind=1 then (if x.Form.at own args<0 then goLines args (r.drop x.Skip.toNat) own tells else goLines args r own tells)
   else if x.Kind=2 then goLines args r (own.set x.Pot.toNat (own.getD x.Pot.toNat 0+x.Form.at own args)) tells
   else goLines args r own (tells++[x.Form.at own args])
termination_by l.length
decreasing_by all_goals simp only [List.length_cons,List.length_drop]; omega
def endOf (vals:List Int):Option (List Int × List Int)→Rslt × List Int
 | none=>(⟨2,[]⟩,vals)
 | some (own,tells)=>if valOk own then (⟨1,tells⟩,own) else (⟨3,[]⟩,vals)
def actRun (act:List Line) (vals args:List Int):Rslt × List Int :=
 if actOk act && valOk vals && argOk args then endOf vals (goLines args act vals []) else (Rslt.nil,[])
def minus (f:Form):Form:=let x:=lin Form.zero f (-1); { x with K:=x.K - 1 }
def rowEnd (pots guards tells:List Form):Row:=⟨guards,List.zipWith (fun p v=>lin p (Form.pot v) (-1)) pots [0,1,2],tells,false⟩
def walk (l:List Line) (pots guards tells:List Form):List Row :=
 match l with
 | []=>[rowEnd pots guards tells]
 | x::r =>
   if x.Kind=4 then [⟨guards,[],[],true⟩]
   else if x.Kind=1 then walk r pots (guards++[into x.Form pots]) tells++walk (r.drop x.Skip.toNat) pots (guards++[minus (into x.Form pots)]) tells
   else if x.Kind=2 then walk r (pots.set x.Pot.toNat (lin (pots.getD x.Pot.toNat Form.nil) (into x.Form pots) 1)) guards tells
   else walk r pots guards (tells++[into x.Form pots])
termination_by l.length
decreasing_by all_goals simp only [List.length_cons,List.length_drop]; omega
def pots0:List Form:=[Form.pot 0,Form.pot 1,Form.pot 2]
def rowsOf (act:List Line):List Row:=if actOk act then walk act pots0 [] [] else []
def catOk (acts:List (List Line)):Bool:=inB acts.length 1 4 && acts.all actOk
def sign:List Int→Int
 | []=>0
 | a::r=>if a>0 then 1 else if a<0 then -1 else sign r
def part (c:List Int):List Int:=c.map fun x=>sign c*x
def zeros (l:List Int):Bool:=l.all fun n=>decide (n=0)
def has (list:List (List Int)) (p:List Int):Bool:=list.any fun q=>decide (q=p)
def addPart (out:List (List Int)) (g:Form):List (List Int):=let p:=part g.C; if !zeros p && !has out p then out++[p] else out
def guardsOf (acts:List (List Line)):List Form:=acts.flatMap fun act=>(rowsOf act).flatMap fun r=>r.Guards
def formsOf (acts:List (List Line)):List Form:=acts.flatMap fun act=>(rowsOf act).flatMap fun r=>r.Adds++r.Tells
def partsOf (acts:List (List Line)):List (List Int):=(guardsOf acts).foldl addPart [[1,0,0],[0,1,0],[0,0,1]]
def reads (l:List Form) (v:Nat):Bool:=l.any fun f=>decide (f.C.getD v 0≠0)
def pinsOf (acts:List (List Line)):List Bool:=[0,1,2].map fun v=>reads (formsOf acts) v
def givesOk (g:List Int):Bool:=inB g.length 1 3 && g.all fun n=>inB n 0 50
def trtOk (t:Treaty):Bool:=valOk t.Base && givesOk t.Gives
def addedOk (a:List Int):Bool:=within a 3 20000
def partsOk (parts:List (List Int)):Bool:=parts.all fun p=>within p 3 10000000
def keepsP (parts:List (List Int)) (give:Int) (a:List Int):Bool:=parts.all fun p=>inB (dot p a) (-give) give
def trtKeeps (t:Treaty) (parts:List (List Int)) (site:Int) (a:List Int):Bool :=
 trtOk t && partsOk parts && inB site 0 (t.Gives.length - 1) && addedOk a && keepsP parts (t.Gives.getD site.toNat 0) a
def others (gives:List Int) (site:Int):Int:=gives.sum - (if 0≤site then gives.getD site.toNat 0 else 0)
def plus (a b:List Int):List Int:=List.zipWith (·+·) a b
def bounds (t:Treaty) (parts:List (List Int)) (site:Int) (a:List Int) (f:Form) (args:List Int):Int × Int × Bool :=
 if trtOk t && partsOk parts && inB site 0 (t.Gives.length - 1) && addedOk a && f.ok && argOk args then
  let n:=f.at (plus t.Base a) args
  if zeros f.C then (n,n,true)
  else if has parts (part f.C) then (n - others t.Gives site,n+others t.Gives site,true)
  else (0,0,false)
 else (0,0,false)
def unpinned (pins:List Bool) (a:List Int):Bool:=(List.zip pins a).all fun p=>!p.1 || decide (p.2=0)
def sure (t:Treaty) (parts:List (List Int)) (site:Int) (a:List Int) (args:List Int) (g:Form):Bool :=
 let b:=bounds t parts site a g args; b.2.2 && decide (0≤b.1)
def rangeOf (t:Treaty) (parts:List (List Int)) (site:Int) (a:List Int):Int :=
 let b:=[0,1,2].map fun v=>bounds t parts site a (Form.pot v) [0,0]
 if b.any (fun x=>x.2.2 && (decide (x.1>10000) || decide (x.2.1 < -10000))) then 2
 else if b.any (fun x=>!x.2.2 || decide (x.1 < -10000) || decide (x.2.1>10000)) then 0 else 1
def goRow (t:Treaty) (parts:List (List Int)) (pins:List Bool) (site:Int) (a:List Int) (r:Row) (args:List Int):Rslt × List Int × Bool :=
 if r.Stop then (⟨2,[]⟩,a,true)
 else
  let adds:=r.Adds.map fun f=>f.at t.Base args
  let x:=plus a adds
  if !unpinned pins adds || !addedOk x then (Rslt.nil,a,false)
  else if rangeOf t parts site x=2 then (⟨3,[]⟩,a,true)
  else if rangeOf t parts site x=0 then (Rslt.nil,a,false)
  else if !trtKeeps t parts site x then (Rslt.nil,a,false)
  else (⟨1,r.Tells.map fun f=>f.at t.Base args⟩,x,true)
def tryRows (rows:List Row) (parts:List (List Int)) (pins:List Bool) (t:Treaty) (site:Int) (a:List Int) (args:List Int):Rslt × List Int × Bool :=
 match rows.find? fun r=>r.Guards.all (sure t parts site a args) with
 | some r=>goRow t parts pins site a r args
 | none=>(Rslt.nil,a,false)
def alone (acts:List (List Line)) (t:Treaty) (site:Int) (a:List Int) (k:Int) (args:List Int):Rslt × List Int × Bool :=
 tryRows (rowsOf (acts.getD k.toNat [])) (partsOf acts) (pinsOf acts) t site a args
def keeps (acts:List (List Line)) (t:Treaty) (site:Int) (a:List Int):Bool:=trtKeeps t (partsOf acts) site a && unpinned (pinsOf acts) a
def Plan.treaty (p:Plan) (base:List Int):Treaty:=⟨base,p.Gives⟩
def planOk (p:Plan):Bool:=inB p.Clients 1 4 && catOk p.Acts && within p.Start 3 1000 && trtOk (p.treaty p.Start)
def isClient (p:Plan) (n:Int):Bool:=inB n 0 (p.Clients - 1)
def isSite (p:Plan) (n:Int):Bool:=inB n 0 (p.Gives.length - 1)
def callB (p:Plan) (c:Call):Bool:=isClient p c.Client && inB c.Seq 1 300 && inB c.Act 0 (p.Acts.length - 1) && argOk c.Args
def resOk (r:Rslt):Bool:=inB r.Code 1 3 && (decide (r.Code=1) || r.Tells.isEmpty) && decide (r.Tells.length≤6) && within r.Tells r.Tells.length 999999999999
def Rslt.none (r:Rslt):Bool:=decide (r.Code=0) && r.Tells.isEmpty
def Call.none (c:Call):Bool:=decide (c.Client=0) && decide (c.Seq=0) && decide (c.Act=0) && c.Args.isEmpty
def Done.ok (d:Done):Bool:=if d.Seq=0 then d.Res.none else inB d.Seq 1 300 && resOk d.Res
def doneOk (p:Plan) (l:List Done):Bool:=decide ((l.length:Int)=p.Clients) && l.all Done.ok
def seqsOk (p:Plan) (l:List Int):Bool:=decide ((l.length:Int)=p.Clients) && l.all fun n=>inB n 0 300
def msgB (p:Plan) (x:Msg):Bool :=
 inB x.Round 0 200 &&
 if x.Kind=1 then decide (x.To = -1) && decide (x.From=0) && decide (x.Round=0) && callB p x.Call && x.Vals.isEmpty && x.Seqs.isEmpty && x.Done.isEmpty
 else if x.Kind=2 then isSite p x.To && decide (x.From=0) && x.Call.none && x.Vals.isEmpty && x.Seqs.isEmpty && x.Done.isEmpty
 else if x.Kind=3 then decide (x.To = -1) && isSite p x.From && addedOk x.Vals && seqsOk p x.Seqs && x.Call.none && x.Done.isEmpty
 else if x.Kind=4 then isSite p x.To && decide (x.From=0) && valOk x.Vals && doneOk p x.Done && x.Call.none && x.Seqs.isEmpty
 else false
def siteNew (p:Plan):Site:=⟨true,false,0,p.Start,[0,0,0],List.replicate p.Clients.toNat Done.nil⟩
def siteB (p:Plan) (s:Site) (at_:Int):Bool:=inB s.Round 0 200 && valOk s.Base && keeps p.Acts (p.treaty s.Base) at_ s.Added && doneOk p s.Done
def wantMsg (c:Call):Msg:=⟨1,-1,0,0,c,[],[],[]⟩
def siteTry (p:Plan) (s:Site) (at_:Int) (c:Call):Site × Rslt × List Msg :=
 let last:=s.Done.getD c.Client.toNat Done.nil
 if !s.Up || decide (c.Client % p.Gives.length≠at_) || decide (c.Seq<last.Seq) || decide (c.Seq>last.Seq+1) then (s,Rslt.nil,[])
 else if c.Seq=last.Seq then (s,last.Res,[])
 else
  let x:=alone p.Acts (p.treaty s.Base) at_ s.Added c.Act c.Args
  if !s.Frozen && x.2.2 then ({ s with Added:=x.2.1,Done:=s.Done.set c.Client.toNat ⟨c.Seq,x.1⟩ },x.1,[])
  else (s,Rslt.nil,[wantMsg c])
def giveMsg (s:Site) (at_:Int):Msg:=⟨3,-1,at_,s.Round,Call.nil,s.Added,s.Done.map Done.Seq,[]⟩
def learn (p:Plan) (at_:Int) (old new:List Done):List Done :=
 (List.range old.length).map fun (i:Nat)=>let d:=new.getD i Done.nil; let o:=old.getD i Done.nil
   if o.Seq<d.Seq∧(i:Int) % p.Gives.length=at_ then d else o
def siteHear (p:Plan) (s:Site) (at_:Int) (m:Msg):Site × List Msg :=
 if !s.Up || decide (m.To≠at_) then (s,[])
 else if m.Kind=2∧m.Round=s.Round then ({ s with Frozen:=true },[giveMsg s at_])
 else if m.Kind=4∧s.Round<m.Round then ({ s with Round:=m.Round,Frozen:=false,Base:=m.Vals,Added:=[0,0,0],Done:=learn p at_ s.Done m.Done },[])
 else (s,[])
def clerkNew (p:Plan):Clerk:=⟨true,0,p.Start,List.replicate p.Clients.toNat Done.nil,[],List.replicate p.Gives.length Got.nil⟩
def Got.none (g:Got):Bool:=!g.Has && g.Added.isEmpty && g.Seqs.isEmpty
def rising:List Call→Bool
 | a::b::r=>decide (a.Client<b.Client) && rising (b::r)
 | _=>true
def gotB (p:Plan) (base:List Int) (i:Int) (g:Got):Bool:=g.none || (g.Has && keeps p.Acts (p.treaty base) i g.Added && seqsOk p g.Seqs)
def allI {α:Type} (f:Int→α→Bool):Nat→List α→Bool
 | _,[]=>true
 | i,a::r=>f i a && allI f (i+1) r
def clerkB (p:Plan) (c:Clerk):Bool :=
 inB c.Round 0 200 && valOk c.Base && doneOk p c.Done && decide (c.Got.length=p.Gives.length) && allI (gotB p c.Base) 0 c.Got &&
 c.Wants.all (callB p) && rising c.Wants && (c.Up || (c.Wants.isEmpty && c.Got.all fun g=>!g.Has))
def clkOk (p:Plan) (c:Clerk):Bool:=planOk p && clerkB p c
def readyB (c:Clerk):Bool:=c.Got.all Got.Has
def wantIn:List Call→Call→List Call
 | [],c=>[c]
 | x::r,c=>if c.Client<x.Client then c::x::r else if x.Client=c.Client then (if c.Seq<x.Seq then x::r else c::r) else x::wantIn r c
def pacts (c:Clerk):List Msg:=(List.range c.Got.length).map fun (i:Nat)=>⟨4,i,0,c.Round,Call.nil,c.Base,[],c.Done⟩
def freezes (c:Clerk):List Msg:=(List.range c.Got.length).map fun (i:Nat)=>⟨2,i,0,c.Round,Call.nil,[],[],[]⟩
def given (c:Clerk):List Int:=c.Got.foldl (fun v g=>if g.Has then plus v g.Added else v) c.Base
def forget (c:Clerk):Clerk:={ c with Wants:=[],Got:=List.replicate c.Got.length Got.nil }
def foldWants (p:Plan) (got:List Got):List Call→List Int→List Done→List Int × List Done × List (Call × Rslt)
 | [],vals,done=>(vals,done,[])
 | x::r,vals,done =>
   if x.Seq=((got.getD (x.Client % p.Gives.length).toNat Got.nil).Seqs.getD x.Client.toNat 0)+1 then
    let a:=actRun (p.Acts.getD x.Act.toNat []) vals x.Args
    let b:=foldWants p got r a.2 (done.set x.Client.toNat ⟨x.Seq,a.1⟩)
    (b.1,b.2.1,(x,a.1)::b.2.2)
   else foldWants p got r vals done
def clerkFold (p:Plan) (c:Clerk):Clerk × List (Call × Rslt) :=
 if !readyB c || decide (c.Round=200) || !valOk (given c) then (c,[])
 else
  let b:=foldWants p c.Got c.Wants (given c) c.Done
  ({ Up:=c.Up,Round:=c.Round+1,Base:=b.1,Done:=b.2.1,Wants:=[],Got:=List.replicate c.Got.length Got.nil },b.2.2)
def clkFold (p:Plan) (c:Clerk):Clerk × List (Call × Rslt):=if clkOk p c then clerkFold p c else (Clerk.nil,[])
def clerkHear (p:Plan) (c:Clerk) (m:Msg):Clerk × List Msg × List (Call × Rslt) :=
 if !c.Up || decide (m.To ≠ -1) then (c,[],[])
 else if m.Kind=1 then ({ c with Wants:=wantIn c.Wants m.Call },[],[])
 else if m.Round≠c.Round∨keeps p.Acts (p.treaty c.Base) m.From m.Vals=false then (c,[],[])
 else
  let x:=clerkFold p { c with Got:=c.Got.set m.From.toNat ⟨true,m.Vals,m.Seqs⟩ }
  (x.1,if x.1.Round=c.Round then [] else pacts x.1,x.2)
def clerkTick (c:Clerk):List Msg:=if c.Up then pacts c++(if !c.Wants.isEmpty || c.Got.any Got.Has then freezes c else []) else []
def clerkFall (c:Clerk) (up:Bool):Clerk:=if c.Up=up then c else { forget c with Up:=up }
def clkReady (p:Plan) (c:Clerk):Bool:=clkOk p c && readyB c
def worldNew (p:Plan):World:=⟨p,List.replicate p.Gives.length (siteNew p),clerkNew p,List.replicate p.Clients.toNat Client.nil,[],[]⟩
def clientB (p:Plan) (at_:Int) (x:Client):Bool :=
 Done.ok ⟨x.Seq,x.Res⟩ && if x.Busy then callB p x.Call && decide (x.Call.Client=at_) && decide (x.Call.Seq=x.Seq+1) else x.Call.none
def logB (p:Plan) (l:List LogD):Bool:=decide (l.length≤100) && l.all fun x=>callB p x.Call && resOk x.Res
def wldOk (w:World):Bool :=
 planOk w.Plan && decide (w.Sites.length=w.Plan.Gives.length) && decide ((w.Clients.length:Int)=w.Plan.Clients) && decide (w.Net.length≤30) && logB w.Plan w.Log &&
 allI (fun i s=>siteB w.Plan s i) 0 w.Sites && allI (clientB w.Plan) 0 w.Clients && w.Net.all (msgB w.Plan) && clerkB w.Plan w.Clerk
def send (net out:List Msg):List Msg:=net++out.take (30 - net.length)
def write (log:List LogD) (more:List LogD):List LogD:=log++more.take (100 - log.length)
def busy (w:World):Nat:=w.Clients.countP Client.Busy
def doCall (w:World) (at_ act:Int) (args:List Int):World :=
 if inB at_ 0 (w.Clients.length - 1) then
  let x:=w.Clients.getD at_.toNat Client.nil
  let c:Call:=⟨at_,x.Seq+1,act,args⟩
  if !x.Busy && callB w.Plan c && decide (w.Log.length+1+busy w≤100) then { w with Clients:=w.Clients.set at_.toNat { x with Busy:=true,Call:=c } } else w
 else w
def doTry (w:World) (at_:Int) (deaf:Bool):World :=
 if inB at_ 0 (w.Clients.length - 1) && (w.Clients.getD at_.toNat Client.nil).Busy then
  let c:=(w.Clients.getD at_.toNat Client.nil).Call
  let h:=(at_ % w.Plan.Gives.length)
  let s:=w.Sites.getD h.toNat Site.nil
  let x:=siteTry w.Plan s h c
  { w with
    Sites:=w.Sites.set h.toNat x.1
    Net:=send w.Net x.2.2
    Log:=if (x.1.Done.getD at_.toNat Done.nil).Seq>(s.Done.getD at_.toNat Done.nil).Seq then write w.Log [⟨c,x.2.1⟩] else w.Log
    Clients:=if x.2.1.Code≠0∧deaf=false then w.Clients.set at_.toNat ⟨c.Seq,false,Call.nil,x.2.1⟩ else w.Clients }
 else w
def cut (net:List Msg) (at_:Int):List Msg:=if 0≤at_ then net.eraseIdx at_.toNat else net
def doBring (w:World) (at_:Int):World :=
 if inB at_ 0 (w.Net.length - 1) then
  match w.Net[at_.toNat]? with
  | none=>w
  | some m =>
    if m.To ≠ -1 then
     let x:=siteHear w.Plan (w.Sites.getD m.To.toNat Site.nil) m.To m
     { w with Sites:=w.Sites.set m.To.toNat x.1,Net:=send (cut w.Net at_) x.2 }
    else
     let x:=clerkHear w.Plan w.Clerk m
     { w with Clerk:=x.1,Net:=send (cut w.Net at_) x.2.1,Log:=write w.Log (x.2.2.map fun y=>⟨y.1,y.2⟩) }
 else w
def doLife (w:World) (at_:Int) (up:Bool):World :=
 if inB at_ 0 (w.Sites.length - 1) then { w with Sites:=w.Sites.set at_.toNat { (w.Sites.getD at_.toNat Site.nil) with Up:=up } } else w
def step (w:World) (e:Event):World :=
 if e.Kind=1 then doCall w e.At e.Act e.Args
 else if e.Kind=2 then doTry w e.At false
 else if e.Kind=3 then doTry w e.At true
 else if e.Kind=4 then doBring w e.At
 else if e.Kind=5 then { w with Net:=cut w.Net e.At }
 else if e.Kind=6 then (match (if 0≤e.At then w.Net[e.At.toNat]? else none) with
  | some m=>{ w with Net:=send w.Net [m] }
  | none=>w)
 else if e.Kind=7 then { w with Net:=send w.Net (clerkTick w.Clerk) }
 else if e.Kind=8 then doLife w e.At false
 else if e.Kind=9 then doLife w e.At true
 else if e.Kind=10 then { w with Clerk:=clerkFall w.Clerk (decide (e.At>0)) }
 else w
def wldStep (w:World) (e:Event):World:=if wldOk w then step w e else World.nil
end Cc
end
section
namespace Cc
open Go Go.AM
abbrev fI (l:List Int):AV:=.fr [] 3 (ints l)
abbrev sI (l:List Int):AV:=.sl 3 (ints l)
abbrev AI (l:List Int):TV:=.one (.sl 3 (ints l))
abbrev eF (f:Form):List AV:=[fI f.C,fI f.D,eI f.K]
abbrev aF (f:Form):List AV:=[sI f.C,sI f.D,eI f.K]
abbrev fFs (l:List Form):AV:=.fr [] 115 (l.map eF)
abbrev sFs (l:List Form):AV:=.sl 115 (l.map eF)
abbrev eL (x:Line):List AV:=[eI x.Kind,eI x.Pot,eI x.Skip,fI x.Form.C,fI x.Form.D,eI x.Form.K]
abbrev aL (x:Line):List AV:=[eI x.Kind,eI x.Pot,eI x.Skip,sI x.Form.C,sI x.Form.D,eI x.Form.K]
abbrev fLs (l:List Line):AV:=.fr [] 122 (l.map eL)
abbrev sLs (l:List Line):AV:=.sl 122 (l.map eL)
abbrev eA (l:List Line):List AV:=[fLs l]
abbrev fAs (l:List (List Line)):AV:=.fr [] 48 (l.map eA)
abbrev sAs (l:List (List Line)):AV:=.sl 48 (l.map eA)
abbrev eR (r:Rslt):List AV:=[eI r.Code,fI r.Tells]
abbrev aR (r:Rslt):List AV:=[eI r.Code,sI r.Tells]
abbrev fRs (l:List Rslt):AV:=.fr [] 45 (l.map eR)
abbrev sRs (l:List Rslt):AV:=.sl 45 (l.map eR)
abbrev eW (r:Row):List AV:=[fFs r.Guards,fFs r.Adds,fFs r.Tells,eB r.Stop]
abbrev aW (r:Row):List AV:=[sFs r.Guards,sFs r.Adds,sFs r.Tells,eB r.Stop]
abbrev sWs (l:List Row):AV:=.sl 200 (l.map eW)
abbrev eP (l:List Int):List AV:=[fI l]
abbrev fPs (l:List (List Int)):AV:=.fr [] 24 (l.map eP)
abbrev sPs (l:List (List Int)):AV:=.sl 24 (l.map eP)
abbrev fBs (l:List Bool):AV:=.fr [] 4 (l.map fun b=>[eB b])
abbrev sBs (l:List Bool):AV:=.sl 4 (l.map fun b=>[eB b])
abbrev aT (t:Treaty):List AV:=[sI t.Base,sI t.Gives]
abbrev aPl (p:Plan):List AV:=[eI p.Clients,sAs p.Acts,sI p.Gives,sI p.Start]
abbrev ePl (p:Plan):List AV:=[eI p.Clients,fAs p.Acts,fI p.Gives,fI p.Start]
abbrev eC (c:Call):List AV:=[eI c.Client,eI c.Seq,eI c.Act,fI c.Args]
abbrev aC (c:Call):List AV:=[eI c.Client,eI c.Seq,eI c.Act,sI c.Args]
abbrev fCs (l:List Call):AV:=.fr [] 50 (l.map eC)
abbrev sCs (l:List Call):AV:=.sl 50 (l.map eC)
abbrev eD (d:Done):List AV:=[eI d.Seq,eI d.Res.Code,fI d.Res.Tells]
abbrev aD (d:Done):List AV:=[eI d.Seq,eI d.Res.Code,sI d.Res.Tells]
abbrev fDs (l:List Done):AV:=.fr [] 79 (l.map eD)
abbrev sDs (l:List Done):AV:=.sl 79 (l.map eD)
abbrev eM (m:Msg):List AV:=[eI m.Kind,eI m.To,eI m.From,eI m.Round,eI m.Call.Client,eI m.Call.Seq,eI m.Call.Act,fI m.Call.Args,fI m.Vals,fI m.Seqs,fDs m.Done]
abbrev aM (m:Msg):List AV:=[eI m.Kind,eI m.To,eI m.From,eI m.Round,eI m.Call.Client,eI m.Call.Seq,eI m.Call.Act,sI m.Call.Args,sI m.Vals,sI m.Seqs,sDs m.Done]
abbrev fMs (l:List Msg):AV:=.fr [] 55 (l.map eM)
abbrev sMs (l:List Msg):AV:=.sl 55 (l.map eM)
abbrev eS (s:Site):List AV:=[eB s.Up,eB s.Frozen,eI s.Round,fI s.Base,fI s.Added,fDs s.Done]
abbrev aS (s:Site):List AV:=[eB s.Up,eB s.Frozen,eI s.Round,sI s.Base,sI s.Added,sDs s.Done]
abbrev fSs (l:List Site):AV:=.fr [] 60 (l.map eS)
abbrev sSs (l:List Site):AV:=.sl 60 (l.map eS)
abbrev eG (g:Got):List AV:=[eB g.Has,fI g.Added,fI g.Seqs]
abbrev aG (g:Got):List AV:=[eB g.Has,sI g.Added,sI g.Seqs]
abbrev fGs (l:List Got):AV:=.fr [] 105 (l.map eG)
abbrev sGs (l:List Got):AV:=.sl 105 (l.map eG)
abbrev aK (c:Clerk):List AV:=[eB c.Up,eI c.Round,sI c.Base,sDs c.Done,sCs c.Wants,sGs c.Got]
abbrev eK (c:Clerk):List AV:=[eB c.Up,eI c.Round,fI c.Base,fDs c.Done,fCs c.Wants,fGs c.Got]
abbrev eX (x:Client):List AV:=[eI x.Seq,eB x.Busy,eI x.Call.Client,eI x.Call.Seq,eI x.Call.Act,fI x.Call.Args,eI x.Res.Code,fI x.Res.Tells]
abbrev aX (x:Client):List AV:=[eI x.Seq,eB x.Busy,eI x.Call.Client,eI x.Call.Seq,eI x.Call.Act,sI x.Call.Args,eI x.Res.Code,sI x.Res.Tells]
abbrev fXs (l:List Client):AV:=.fr [] 163 (l.map eX)
abbrev sXs (l:List Client):AV:=.sl 163 (l.map eX)
abbrev eO (x:LogD):List AV:=[eI x.Call.Client,eI x.Call.Seq,eI x.Call.Act,fI x.Call.Args,eI x.Res.Code,fI x.Res.Tells]
abbrev fOs (l:List LogD):AV:=.fr [] 230 (l.map eO)
abbrev sOs (l:List LogD):AV:=.sl 230 (l.map eO)
abbrev aWd (w:World):List AV:=[eI w.Plan.Clients,sAs w.Plan.Acts,sI w.Plan.Gives,sI w.Plan.Start,sSs w.Sites,eB w.Clerk.Up,eI w.Clerk.Round,sI w.Clerk.Base,sDs w.Clerk.Done,sCs w.Clerk.Wants,sGs w.Clerk.Got,sXs w.Clients,sMs w.Net,sOs w.Log]
abbrev eWd (w:World):List AV:=[eI w.Plan.Clients,fAs w.Plan.Acts,fI w.Plan.Gives,fI w.Plan.Start,fSs w.Sites,eB w.Clerk.Up,eI w.Clerk.Round,fI w.Clerk.Base,fDs w.Clerk.Done,fCs w.Clerk.Wants,fGs w.Clerk.Got,fXs w.Clients,fMs w.Net,fOs w.Log]
abbrev eE (e:Event):List AV:=[eI e.Kind,eI e.At,eI e.Act,fI e.Args]
abbrev aE (e:Event):List AV:=[eI e.Kind,eI e.At,eI e.Act,sI e.Args]
abbrev sEs (l:List Event):AV:=.sl 94 (l.map eE)
end Cc
end
section
namespace Cc
open Go Go.AM
set_option maxRecDepth 100000
set_option maxHeartbeats 4000000
def idxOf {α:Type} (p:α→Bool):List α→Int
 | [] => -1
 | a::r=>if p a then 0 else if idxOf p r<0 then -1 else idxOf p r+1
theorem xj7 {α:Type} (p:α→Bool):∀ l:List α,-1≤idxOf p l
 | []=>by simp [idxOf]
 | a::r=>by have:=xj7 p r; unfold idxOf; split<;>(try split)<;>omega
theorem zg {α:Type} (p:α→Bool):∀ l:List α,decide (idxOf p l≥0)=l.any p
 | []=>by simp [idxOf]
 | a::r=>by
   have h:=zg p r
   have:=xj7 p r
   simp only [List.any_cons,← h]
   have e:idxOf p (a::r)=if p a then 0 else if idxOf p r<0 then -1 else idxOf p r+1:=rfl
   rw [e]
   cases p a
   · by_cases h:idxOf p r<0
     · simp [h]
     · simp [h]; omega
   · simp
theorem y9 {α:Type} {p:α→Bool}:∀ {l:List α} {i:Nat} (d:α),i<l.length→p (l.getD i d)=true→(∀ j,j<i→p (l.getD j d)=false)→idxOf p l=i
 | [],i,d,h,_,_=>by simp at h
 | a::r,0,d,_,hp,_=>by simp at hp; simp [idxOf,hp]
 | a::r,i+1,d,h,hp,hj=>by
   have h0:=hj 0 (by omega)
   simp only [List.getD_cons_zero] at h0
   have:=y9 (l:=r) (i:=i) d (by simpa using h) (by simpa using hp) (fun j hji=>by have:=hj (j+1) (by omega); simpa using this)
   simp [idxOf,h0,this]; omega
theorem yq {α:Type} {p:α→Bool}:∀ {l:List α} (d:α),(∀ j,j<l.length→p (l.getD j d)=false)→idxOf p l = -1
 | [],_,_=>rfl
 | a::r,d,hj=>by
   have h0:=hj 0 (by simp)
   simp only [List.getD_cons_zero] at h0
   have:=yq (l:=r) d (fun j hji=>by have:=hj (j+1) (by simpa using hji); simpa using this)
   simp [idxOf,h0,this]
theorem yd (n lo hi:Int):Sem P 148 [(.pure,I n),(.pure,I lo),(.pure,I hi)] [] (B (inB n lo hi)):=by
 refine xd (E:=E0) xb xc (fn:=Go.Proofs.Tryz.f148) (by kernel_rfl) (by kernel_rfl) (fun hb=>?_)
 conv=>whnf
 repeat' first|((first|refine sN ?_|refine dC ?_|(refine dZ ?_;refine dI ?_)|refine vM ?_|refine vD ?_|refine mS ?_|(refine xa ?_ ?_<;>intro _))<;>conv=>whnf)
 all_goals exact rB (by by_cases h1:lo≤n<;>by_cases h2:n≤hi<;>simp_all [inB]<;>omega)
theorem xl (n lo hi:Int):Sem P 91 [(.pure,I n),(.pure,I lo),(.pure,I hi)] [] (B (inB n lo hi)):=by
 refine xd (E:=E0) xb xc (fn:=Go.Proofs.Tryz.f91) (by kernel_rfl) (by kernel_rfl) (fun hb=>?_)
 conv=>whnf
 repeat' first|((first|refine sN ?_|refine dC ?_|(refine dZ ?_;refine dI ?_)|refine vM ?_|refine vD ?_|refine mS ?_|(refine xa ?_ ?_<;>intro _))<;>conv=>whnf)
 all_goals exact rB (by by_cases h1:lo≤n<;>by_cases h2:n≤hi<;>simp_all [inB]<;>omega)
theorem ya (l:List Int) (n:Nat) (m:Int) (hm : -9000000000000000000≤m∧m≤9000000000000000000):Sem P 137 [(.pure,AI l),(.pure,I n),(.pure,I m)] [] (B (within l n m)):=by
 refine xd (E:=E0) xb xc (fn:=Go.Proofs.Tryz.f137) (by kernel_rfl) (by kernel_rfl) (fun hb=>?_)
 have la:=xe l
 have hb1:(ints l).length≤1125899906842624:=hb.1.1
 conv=>whnf
 (repeat' first|((first|refine sN ?_|refine dC ?_|(refine dZ ?_;refine dI ?_)|refine vM ?_|refine vD ?_|refine mS ?_)<;>conv=>whnf))
 refine xa (fun h=>?_) (fun h=>?_)
 all_goals conv=>whnf
 all_goals (repeat' first|((first|refine sN ?_|refine dC ?_|(refine dZ ?_;refine dI ?_)|refine vM ?_|refine vD ?_|refine mS ?_)<;>conv=>whnf))
 · exact rB (by have:=yt h; symm; simp [within]; intro e; omega)
 · have h:=yu h
   refine Vc.loop { i:Nat // ∀ j,j<i→inB (l.getD j 0) (-m) m=true } (fun i=>updL [0,2] [(7,I i.1)] []) (fun i=>l.length - i.1) ⟨0,by simp⟩ ?_ (fun i=>?_)
   · exact wl
   · have hi:=i.2
     conv=>whnf
     (repeat' first|((first|refine sN ?_|refine dC ?_|(refine dZ ?_;refine dI ?_)|refine vM ?_|refine vD ?_|refine mS ?_)<;>conv=>whnf))
     refine xg (fun g=>?_) (fun g=>?_)
     all_goals conv=>whnf
     · repeat' first|((first|refine sN ?_|refine dC ?_|(refine dZ ?_;refine dI ?_)|refine vM ?_|refine vD ?_|refine mS ?_|(refine xa ?_ ?_<;>intro _)|refine ixN (enc:=rI) 0 (by omega) ?_|refine ⟨_,xl _ _ _,?_⟩|refine w64 (by omega) (by omega) ?_)<;>conv=>whnf)
       · rename_i g'
         rw [Int.zero_sub] at g'
         exact rB (by
          symm; simp only [within,Bool.and_eq_false_iff]
          exact .inr (zw 0 (j:=i.1) (by omega) (by simpa using g')))
       · rename_i g'
         rw [Int.zero_sub] at g'
         refine ⟨⟨i.1+1,fun j hj=>?_⟩,?_,?_⟩
         · by_cases h:j<i.1
           · exact hi j h
           · obtain rfl:j=i.1:=by omega
             simpa using g'
         · simp only; omega
         · exact wl
     · (repeat' first|((first|refine sN ?_|refine dC ?_|(refine dZ ?_;refine dI ?_)|refine vM ?_|refine vD ?_|refine mS ?_)<;>conv=>whnf))
       exact rB (by
        symm; simp only [within,Bool.and_eq_true,decide_eq_true_eq]
        exact ⟨by omega,zu 0 fun j hj=>hi j (by omega)⟩)
theorem xt8 (n m:Int) (hm : -9000000000000000000≤m∧m≤9000000000000000000):Sem P 150 [(.pure,I n),(.pure,.one (.fp [] [eI m] 0))] [] (B (!inB n (-m) m)):=by
 refine xd (E:=E0) xb xc (fn:=Go.Proofs.Tryz.f150) (by kernel_rfl) (by kernel_rfl) (fun hb=>?_)
 conv=>whnf
 repeat' first|((first|refine sN ?_|refine dC ?_|(refine dZ ?_;refine dI ?_)|refine vM ?_|refine vD ?_|refine mS ?_|(refine xa ?_ ?_<;>intro _)|refine ⟨_,yd _ _ _,?_⟩|refine w64 (by omega) (by omega) ?_)<;>conv=>whnf)
 exact rB (by rw [Int.zero_sub])
theorem xi3 (m:Int) (hm : -9000000000000000000≤m∧m≤9000000000000000000) (l:List Int):Sem P 225 [(.pure,.one (sI l)),(.pure,.one (.fn 150 [.fp [] [eI m] 0]))] [] (I (idxOf (fun (x:Int)=>!inB x (-m) m) l)):=by
 refine xd (E:=E0) xb xc (fn:=Go.Proofs.Tryz.f225) (by kernel_rfl) (by kernel_rfl) (fun hb=>?_)
 have la:(ints l).length=l.length:=List.length_map ..
 have hb1:(ints l).length≤1125899906842624:=hb.1.1
 conv=>whnf
 (repeat' first|((first|refine sN ?_|refine dC ?_|(refine dZ ?_;refine dI ?_)|refine vM ?_|refine vD ?_|refine mS ?_)<;>conv=>whnf))
 refine Vc.loop { i:Nat // ∀ j,j<i→j<l.length→(fun (x:Int)=>!inB x (-m) m) (l.getD j default)=false } (fun i=>updL [0,1,7] [(8,I i.1)] []) (fun i=>l.length - i.1) ⟨0,by simp⟩ ?_ (fun i=>?_)
 · exact wl
 · have hi:=i.2
   conv=>whnf
   (repeat' first|((first|refine sN ?_|refine dC ?_|(refine dZ ?_;refine dI ?_)|refine vM ?_|refine vD ?_|refine mS ?_)<;>conv=>whnf))
   refine xg (fun g=>?_) (fun g=>?_)
   all_goals conv=>whnf
   · repeat' first|((first|refine sN ?_|refine dC ?_|(refine dZ ?_;refine dI ?_)|refine vM ?_|refine vD ?_|refine mS ?_|(refine xa ?_ ?_<;>intro _)|refine ixN (enc:=rI) default (by omega) ?_|refine ⟨_,xt8 _ m hm,?_⟩|refine w64 (by omega) (by omega) ?_)<;>conv=>whnf)
     · rename_i h
       exact rI' (y9 (p:=fun (x:Int)=>!inB x (-m) m) default (by omega) h fun j hj=>hi j hj (by omega)).symm
     · rename_i h
       refine ⟨⟨i.1+1,fun j hj hl=>?_⟩,?_,?_⟩
       · by_cases hji:j<i.1
         · exact hi j hji hl
         · obtain rfl:j=i.1:=by omega
           exact h
       · simp only; omega
       · exact wl
   · (repeat' first|((first|refine sN ?_|refine dC ?_|(refine dZ ?_;refine dI ?_)|refine vM ?_|refine vD ?_|refine mS ?_)<;>conv=>whnf))
     exact rI' (yq (p:=fun (x:Int)=>!inB x (-m) m) default fun j hj=>hi j (by omega) hj).symm
theorem xpa (m:Int) (hm : -9000000000000000000≤m∧m≤9000000000000000000) (l:List Int):Sem P 149 [(.pure,.one (sI l)),(.pure,.one (.fn 150 [.fp [] [eI m] 0]))] [] (B (l.any fun (x:Int)=>!inB x (-m) m)):=by
 refine xd (E:=E0) xb xc (fn:=Go.Proofs.Tryz.f149) (by kernel_rfl) (by kernel_rfl) (fun hb=>?_)
 conv=>whnf
 repeat' first|((first|refine sN ?_|refine dC ?_|(refine dZ ?_;refine dI ?_)|refine vM ?_|refine vD ?_|refine mS ?_|(refine xa ?_ ?_<;>intro _)|refine ⟨_,xi3 m hm l,?_⟩)<;>conv=>whnf)
 exact rB (zg _ _)
theorem ji {α:Type} (p:α→Bool) (l:List α):(!l.any fun x=>!p x)=l.all p:=by induction l with|nil=>rfl|cons a r ih=>simp only [List.any_cons,List.all_cons,← ih]; cases p a<;>simp
theorem yl (l:List Int) (n:Nat) (m:Int) (hm : -9000000000000000000≤m∧m≤9000000000000000000):Sem P 62 [(.pure,AI l),(.pure,I n),(.pure,I m)] [] (B (within l n m)):=by
 refine xd (E:=E0) xb xc (fn:=Go.Proofs.Tryz.f62) (by kernel_rfl) (by kernel_rfl) (fun hb=>?_)
 have la:=xe l
 conv=>whnf
 repeat' first|((first|refine sN ?_|refine dC ?_|(refine dZ ?_;refine dI ?_)|refine vM ?_|refine vD ?_|refine mS ?_|(refine xa ?_ ?_<;>intro _)|refine ⟨_,xpa m hm l,?_⟩)<;>conv=>whnf)
 · rename_i h
   have h:((ints l).length:Int)=n:=by simpa using h
   exact rB (by rw [ji]; unfold within; rw [decide_eq_true (by omega),Bool.true_and])
 · rename_i h
   have h:((ints l).length:Int)≠n:=by simpa using h
   exact rB (by unfold within; rw [decide_eq_false (by omega),Bool.false_and])
theorem qn (f:Form):Sem P 300 [(.pure,.agg (aF f))] [] (B f.ok):=by
 refine xd (E:=E0) xb xc (fn:=Go.Proofs.Tryz.f300) (by kernel_rfl) (by kernel_rfl) (fun hb=>?_)
 conv=>whnf
 repeat' first|((first|refine sN ?_|refine dC ?_|(refine dZ ?_;refine dI ?_)|refine vM ?_|refine vD ?_|refine mS ?_|(refine xa ?_ ?_<;>intro _)|refine ⟨_,ya _ 3 _ (by omega),?_⟩|refine ⟨_,ya _ 2 _ (by omega),?_⟩|refine ⟨_,xl _ _ _,?_⟩)<;>conv=>whnf)
 all_goals exact rB (by simp_all [Form.ok])
theorem qo (f:Form):Sem P 60 [(.pure,.agg (aF f))] [] (B f.ok):=by
 refine xd (E:=E0) xb xc (fn:=Go.Proofs.Tryz.f60) (by kernel_rfl) (by kernel_rfl) (fun hb=>?_)
 conv=>whnf
 repeat' first|((first|refine sN ?_|refine dC ?_|(refine dZ ?_;refine dI ?_)|refine vM ?_|refine vD ?_|refine mS ?_|(refine xa ?_ ?_<;>intro _)|refine ⟨_,yl _ 3 _ (by omega),?_⟩|refine ⟨_,yl _ 2 _ (by omega),?_⟩|refine ⟨_,yd _ _ _,?_⟩)<;>conv=>whnf)
 all_goals exact rB (by simp_all [Form.ok])
theorem zc (l:List Int):Sem P 129 [(.pure,AI l)] [] (B (valOk l)):=by
 refine xd (E:=E0) xb xc (fn:=Go.Proofs.Tryz.f129) (by kernel_rfl) (by kernel_rfl) (fun hb=>?_)
 conv=>whnf
 repeat' first|((first|refine sN ?_|refine dC ?_|(refine dZ ?_;refine dI ?_)|refine vM ?_|refine vD ?_|refine mS ?_|(refine xa ?_ ?_<;>intro _)|refine ⟨_,ya _ 3 _ (by omega),?_⟩)<;>conv=>whnf)
 exact rB rfl
theorem qe (l:List Int):Sem P 17 [(.pure,AI l)] [] (B (valOk l)):=by
 refine xd (E:=E0) xb xc (fn:=Go.Proofs.Tryz.f17) (by kernel_rfl) (by kernel_rfl) (fun hb=>?_)
 conv=>whnf
 repeat' first|((first|refine sN ?_|refine dC ?_|(refine dZ ?_;refine dI ?_)|refine vM ?_|refine vD ?_|refine mS ?_|(refine xa ?_ ?_<;>intro _)|refine ⟨_,yl _ 3 _ (by omega),?_⟩)<;>conv=>whnf)
 exact rB rfl
theorem jr (l:List Int):Sem P 180 [(.pure,AI l)] [] (B (argOk l)):=by
 refine xd (E:=E0) xb xc (fn:=Go.Proofs.Tryz.f180) (by kernel_rfl) (by kernel_rfl) (fun hb=>?_)
 conv=>whnf
 repeat' first|((first|refine sN ?_|refine dC ?_|(refine dZ ?_;refine dI ?_)|refine vM ?_|refine vD ?_|refine mS ?_|(refine xa ?_ ?_<;>intro _)|refine ⟨_,ya _ 2 _ (by omega),?_⟩)<;>conv=>whnf)
 exact rB rfl
theorem xci (l:List Int):Sem P 65 [(.pure,AI l)] [] (B (argOk l)):=by
 refine xd (E:=E0) xb xc (fn:=Go.Proofs.Tryz.f65) (by kernel_rfl) (by kernel_rfl) (fun hb=>?_)
 conv=>whnf
 repeat' first|((first|refine sN ?_|refine dC ?_|(refine dZ ?_;refine dI ?_)|refine vM ?_|refine vD ?_|refine mS ?_|(refine xa ?_ ?_<;>intro _)|refine ⟨_,yl _ 2 _ (by omega),?_⟩)<;>conv=>whnf)
 exact rB rfl
theorem xpb (f:Form):Sem P 299 [(.pure,.agg (aF f))] [] (B f.small):=by
 refine xd (E:=E0) xb xc (fn:=Go.Proofs.Tryz.f299) (by kernel_rfl) (by kernel_rfl) (fun hb=>?_)
 conv=>whnf
 repeat' first|((first|refine sN ?_|refine dC ?_|(refine dZ ?_;refine dI ?_)|refine vM ?_|refine vD ?_|refine mS ?_|(refine xa ?_ ?_<;>intro _)|refine ⟨_,ya _ 3 _ (by omega),?_⟩|refine ⟨_,ya _ 2 _ (by omega),?_⟩|refine ⟨_,xl _ _ _,?_⟩)<;>conv=>whnf)
 all_goals exact rB (by simp_all [Form.small])
theorem xpc (f:Form):Sem P 226 [(.pure,.agg (aF f))] [] (B f.small):=by
 refine xd (E:=E0) xb xc (fn:=Go.Proofs.Tryz.f226) (by kernel_rfl) (by kernel_rfl) (fun hb=>?_)
 conv=>whnf
 repeat' first|((first|refine sN ?_|refine dC ?_|(refine dZ ?_;refine dI ?_)|refine vM ?_|refine vD ?_|refine mS ?_|(refine xa ?_ ?_<;>intro _)|refine ⟨_,yl _ 3 _ (by omega),?_⟩|refine ⟨_,yl _ 2 _ (by omega),?_⟩|refine ⟨_,yd _ _ _,?_⟩)<;>conv=>whnf)
 all_goals exact rB (by simp_all [Form.small])
theorem zr:Sem P 145 [] [] (.agg (aF Form.zero)):=by
 refine xd (E:=E0) xb xc (fn:=Go.Proofs.Tryz.f145) (by kernel_rfl) (by kernel_rfl) (fun hb=>?_)
 conv=>whnf
 (repeat' first|((first|refine sN ?_|refine dC ?_|(refine dZ ?_;refine dI ?_)|refine vM ?_|refine vD ?_|refine mS ?_)<;>conv=>whnf))
 exact ⟨rfl,rfl⟩
theorem v7:Sem P 61 [] [] (.agg (aF Form.zero)):=by
 refine xd (E:=E0) xb xc (fn:=Go.Proofs.Tryz.f61) (by kernel_rfl) (by kernel_rfl) (fun hb=>?_)
 conv=>whnf
 (repeat' first|((first|refine sN ?_|refine dC ?_|(refine dZ ?_;refine dI ?_)|refine vM ?_|refine vD ?_|refine mS ?_)<;>conv=>whnf))
 exact ⟨rfl,rfl⟩
end Cc
end
section
namespace Cc
theorem xf {n lo hi:Int}:inB n lo hi=true↔lo≤n∧n≤hi:=by simp [inB]
theorem xh {l:List Int} {k:Nat} {m:Int}:within l k m=true↔l.length=k∧∀ x∈l,-m≤x∧x≤m:=by
 simp [within,xf,List.all_eq_true]
theorem len3 {α:Type} {l:List α} (h:l.length=3):∃ a b c,l=[a,b,c]:=by
 match l,h with
 | [a,b,c],_=>exact ⟨a,b,c,rfl⟩
theorem len2 {α:Type} {l:List α} (h:l.length=2):∃ a b,l=[a,b]:=by
 match l,h with
 | [a,b],_=>exact ⟨a,b,rfl⟩
theorem within3 {l:List Int} {m:Int} (h:within l 3 m=true):∃ a b c,l=[a,b,c]∧(-m≤a∧a≤m)∧(-m≤b∧b≤m)∧(-m≤c∧c≤m):=by
 obtain ⟨h1,h2⟩:=xh.1 h
 obtain ⟨a,b,c,rfl⟩:=len3 h1
 exact ⟨a,b,c,rfl,h2 a (by simp),h2 b (by simp),h2 c (by simp)⟩
theorem within2 {l:List Int} {m:Int} (h:within l 2 m=true):∃ a b,l=[a,b]∧(-m≤a∧a≤m)∧(-m≤b∧b≤m):=by
 obtain ⟨h1,h2⟩:=xh.1 h
 obtain ⟨a,b,rfl⟩:=len2 h1
 exact ⟨a,b,rfl,h2 a (by simp),h2 b (by simp)⟩
def Form.sh (f:Form):Prop:=f.C.length=3∧f.D.length=2
def Form.bd (f:Form) (m:Int):Prop:=f.sh∧(∀ x∈f.C,-m≤x∧x≤m)∧(∀ x∈f.D,-m≤x∧x≤m) ∧ -m≤f.K∧f.K≤m
theorem zk {f:Form}:f.ok=true↔f.bd 10000000:=by
 simp only [Form.ok,Bool.and_eq_true,xh,xf,Form.bd,Form.sh]
 constructor
 · rintro ⟨⟨⟨h1,h2⟩,h3,h4⟩,h5,h6⟩; exact ⟨⟨h1,h3⟩,h2,h4,h5,h6⟩
 · rintro ⟨⟨h1,h3⟩,h2,h4,h5,h6⟩; exact ⟨⟨⟨h1,h2⟩,h3,h4⟩,h5,h6⟩
theorem xi {f:Form} {m m':Int} (h:f.bd m) (hm:m≤m'):f.bd m' :=
 ⟨h.1,fun x hx=>by have:=h.2.1 x hx; omega,fun x hx=>by have:=h.2.2.1 x hx; omega,by have:=h.2.2.2.1; omega,by have:=h.2.2.2.2; omega⟩
theorem xen {f:Form} {m:Int} (h:f.bd m) (hm:m≤10000000):f.ok=true:=zk.2 (xi h hm)
theorem bdE {f:Form} {m:Int} (h:f.bd m):∃ a b c d e k,f=⟨[a,b,c],[d,e],k⟩∧(-m≤a∧a≤m)∧(-m≤b∧b≤m)∧(-m≤c∧c≤m)∧(-m≤d∧d≤m)∧(-m≤e∧e≤m) ∧ -m≤k∧k≤m:=by
 obtain ⟨C,D,K⟩:=f
 obtain ⟨⟨h1,h2⟩,h3,h4,h5⟩:=h
 obtain ⟨a,b,c,rfl⟩:=len3 h1
 obtain ⟨d,e,rfl⟩:=len2 h2
 exact ⟨a,b,c,d,e,K,rfl,h3 a (by simp),h3 b (by simp),h3 c (by simp),h4 d (by simp),h4 e (by simp),h5⟩
theorem bdI {a b c d e k m:Int} (h1 : -m≤a∧a≤m) (h2 : -m≤b∧b≤m) (h3 : -m≤c∧c≤m) (h4 : -m≤d∧d≤m) (h5 : -m≤e∧e≤m) (h6 : -m≤k∧k≤m):Form.bd ⟨[a,b,c],[d,e],k⟩ m:=by
 refine ⟨⟨rfl,rfl⟩,?_,?_,h6⟩
 · intro x hx; simp at hx; rcases hx with rfl|rfl|rfl<;>assumption
 · intro x hx; simp at hx; rcases hx with rfl|rfl<;>assumption
theorem xfn {f:Form} (h:f.small=true):∃ a b c d e k,f=⟨[a,b,c],[d,e],k⟩∧(-2≤a∧a≤2)∧(-2≤b∧b≤2)∧(-2≤c∧c≤2)∧(-2≤d∧d≤2)∧(-2≤e∧e≤2) ∧ -20≤k∧k≤20:=by
 obtain ⟨C,D,K⟩:=f
 simp only [Form.small,Bool.and_eq_true,xf] at h
 obtain ⟨⟨h1,h2⟩,h3⟩:=h
 obtain ⟨a,b,c,rfl,ha,hb,hc⟩:=within3 h1
 obtain ⟨d,e,rfl,hd,he⟩:=within2 h2
 exact ⟨a,b,c,d,e,K,rfl,ha,hb,hc,hd,he,h3⟩
theorem xho {a b c:Int} {D:List Int} {K:Int} {p q r:Form}:into ⟨[a,b,c],D,K⟩ [p,q,r]=lin (lin (lin ⟨[0,0,0],D,K⟩ p a) q b) r c:=rfl
theorem xm {x y a b:Int} (hx : -a≤x∧x≤a) (hy : -b≤y∧y≤b) : -(a*b)≤x*y∧x*y≤a*b:=by
 have ha:0≤a:=by omega
 have hb:0≤b:=by omega
 have h:(x*y).natAbs≤(a*b).natAbs:=by
  rw [Int.natAbs_mul,Int.natAbs_mul]
  exact Nat.mul_le_mul (by omega) (by omega)
 have h0:0≤a*b:=Int.mul_nonneg ha hb
 omega
theorem yw {a b:Form} {n m m' k:Int} (ha:a.bd m) (hb:b.bd m') (hn : -k≤n∧n≤k):(lin a b n).bd (m+k*m'):=by
 obtain ⟨a1,a2,a3,a4,a5,a6,rfl,h1,h2,h3,h4,h5,h6⟩:=bdE ha
 obtain ⟨b1,b2,b3,b4,b5,b6,rfl,g1,g2,g3,g4,g5,g6⟩:=bdE hb
 have k1:=xm hn g1
 have k2:=xm hn g2
 have k3:=xm hn g3
 have k4:=xm hn g4
 have k5:=xm hn g5
 have k6:=xm hn g6
 show Form.bd ⟨[a1+n*b1,a2+n*b2,a3+n*b3],[a4+n*b4,a5+n*b5],a6+n*b6⟩ _
 exact bdI (by omega) (by omega) (by omega) (by omega) (by omega) (by omega)
theorem xno {f p q r:Form} {m:Int} (hf:f.small=true) (hp:p.bd m) (hq:q.bd m) (hr:r.bd m):(into f [p,q,r]).bd (6*m+20):=by
 obtain ⟨a,b,c,d,e,k,rfl,ha,hb,hc,hd,he,hk⟩:=xfn hf
 rw [xho]
 have h0:Form.bd ⟨[0,0,0],[d,e],k⟩ 20:=bdI (by omega) (by omega) (by omega) (by omega) (by omega) (by omega)
 exact xi (yw (yw (yw h0 hp (k:=2) ha) hq (k:=2) hb) hr (k:=2) hc) (by omega)
theorem xj8 {f:Form} {m:Int} (hf:f.bd m):(minus f).bd (m+1):=by
 obtain ⟨a,b,c,d,e,k,rfl,ha,hb,hc,hd,he,hk⟩:=bdE hf
 show Form.bd ⟨[0 + -1*a,0 + -1*b,0 + -1*c],[0 + -1*d,0 + -1*e],0 + -1*k - 1⟩ _
 exact bdI (by omega) (by omega) (by omega) (by omega) (by omega) (by omega)
theorem z7 (v:Nat):(Form.pot v).bd 1:=by
 match v with
 | 0=>exact bdI (by omega) (by omega) (by omega) (by omega) (by omega) (by omega)
 | 1=>exact bdI (by omega) (by omega) (by omega) (by omega) (by omega) (by omega)
 | 2=>exact bdI (by omega) (by omega) (by omega) (by omega) (by omega) (by omega)
 | n+3=>exact bdI (by omega) (by omega) (by omega) (by omega) (by omega) (by omega)
theorem js {x:Line} (h:x.ok=true) (h4:x.Kind≠4):x.Form.small=true:=by
 unfold Line.ok at h
 split at h
 · simp only [Bool.and_eq_true] at h; exact h.2
 · split at h
   · simp only [Bool.and_eq_true] at h; exact h.2
   · split at h
     · simp only [Bool.and_eq_true] at h; exact h.2
     · simp [h4] at h
theorem j5 {x:Line} (h:x.ok=true) (h2:x.Kind=2):0≤x.Pot∧x.Pot≤2:=by
 unfold Line.ok at h
 simp [h2,xf] at h; omega
theorem xa3 {x:Line} (h:x.ok=true) (h2:x.Kind=1):1≤x.Skip∧x.Skip≤6:=by
 unfold Line.ok at h
 simp [h2,xf] at h; omega
theorem xa4 {x:Line} (h:x.ok=true):x.Kind=1∨x.Kind=2∨x.Kind=3∨x.Kind=4:=by
 unfold Line.ok at h
 by_cases h1:x.Kind=1<;>by_cases h2:x.Kind=2<;>by_cases h3:x.Kind=3<;>by_cases h4:x.Kind=4<;>simp_all
def Row.bd (r:Row) (m:Int):Prop:=(∀ f∈r.Guards,f.bd m)∧(∀ f∈r.Adds,f.bd m)∧(∀ f∈r.Tells,f.bd m)∧(if r.Stop then r.Adds=[]∧r.Tells=[] else r.Adds.length=3)
def pw (n:Nat):Int:=7 ^ n
theorem xaj (n:Nat):1≤pw n:=by
 induction n with
 | zero=>simp [pw]
 | succ n ih=>simp only [pw,Int.pow_succ] at *; omega
theorem w9 {n k:Nat} (h:n≤k):pw n≤pw k:=by
 induction h with
 | refl=>omega
 | step h ih=>rename_i m; have:=xaj m; simp only [pw,Int.pow_succ] at *; omega
theorem xhp (n:Nat):pw (n+1)=7*pw n:=by simp only [pw,Int.pow_succ]; omega
theorem xvy:∀ (n:Nat) (l:List Line),l.length≤n→∀ (p q r:Form) (guards tells:List Form) (m:Int),0≤m→(m+4)*pw l.length≤588245→(∀ x∈l,x.ok=true) →
 p.bd m→q.bd m→r.bd m→(∀ f∈guards,f.bd 588246)→(∀ f∈tells,f.bd 588246)→∀ w∈walk l [p,q,r] guards tells,w.bd 588246:=by
 intro n
 induction n with
 | zero =>
   intro l hl p q r guards tells m hm0 hm hok hp hq hr hg ht w hw
   cases l with
   | cons _ _=>simp at hl
   | nil =>
     have hm':m+4≤588245:=by simpa [pw] using hm
     unfold walk at hw
     simp only [List.mem_singleton] at hw
     subst hw
     have hk:(-1:Int) ≤ -1∧(-1:Int)≤1:=by omega
     refine ⟨hg,?_,ht,by simp [rowEnd]⟩
     intro f hf
     simp only [rowEnd,List.zipWith_cons_cons,List.zipWith_nil_left,List.mem_cons,List.not_mem_nil,or_false] at hf
     rcases hf with rfl|rfl|rfl
     · exact xi (yw hp (z7 0) hk) (by omega)
     · exact xi (yw hq (z7 1) hk) (by omega)
     · exact xi (yw hr (z7 2) hk) (by omega)
 | succ n ih =>
   intro l hl p q r guards tells m hm0 hm hok hp hq hr hg ht w hw
   cases l with
   | nil=>exact ih [] (by simp) p q r guards tells m hm0 hm hok hp hq hr hg ht w hw
   | cons x l =>
     have hx:=hok x (by simp)
     have hl':l.length≤n:=by simpa using hl
     have hok':∀ y∈l,y.ok=true:=fun y hy=>hok y (by simp [hy])
     rw [List.length_cons,xhp] at hm
     have hpl:=xaj l.length
     have hmul:(m+4)*(7*pw l.length)=(7*m+28)*pw l.length:=by
      rw [← Int.mul_assoc,Int.mul_comm (m+4) 7,Int.mul_add]; rfl
     have hm2:(7*m+28)*pw l.length≤588245:=by omega
     have hm3:7*m+28≤588245:=by
      have:(7*m+28)*1≤(7*m+28)*pw l.length:=Int.mul_le_mul_of_nonneg_left hpl (by omega)
      omega
     have hm4:(m+4)*pw l.length≤588245:=by
      have:(m+4)*pw l.length≤(7*m+28)*pw l.length:=Int.mul_le_mul_of_nonneg_right (by omega) (by omega)
      omega
     unfold walk at hw
     split at hw
     · simp only [List.mem_singleton] at hw
       subst hw
       exact ⟨hg,by simp,by simp,by simp⟩
     · rename_i h4
       have hs:=js hx h4
       have hf:=xno hs hp hq hr
       split at hw
       · rename_i h1
         rcases List.mem_append.1 hw with hw|hw
         · refine ih l hl' p q r _ tells m hm0 hm4 hok' hp hq hr ?_ ht w hw
           intro f hf'
           rcases List.mem_append.1 hf' with hf'|hf'
           · exact hg f hf'
           · simp only [List.mem_singleton] at hf'; subst hf'; exact xi hf (by omega)
         · have hlen:(l.drop x.Skip.toNat).length≤l.length:=by simp
           refine ih (l.drop x.Skip.toNat) (by omega) p q r _ tells m hm0 ?_ (fun y hy=>hok' y (List.mem_of_mem_drop hy)) hp hq hr ?_ ht w hw
           · have h1:=w9 hlen
             have:(m+4)*pw (l.drop x.Skip.toNat).length≤(m+4)*pw l.length:=Int.mul_le_mul_of_nonneg_left h1 (by omega)
             omega
           · intro f hf'
             rcases List.mem_append.1 hf' with hf'|hf'
             · exact hg f hf'
             · simp only [List.mem_singleton] at hf'; subst hf'; exact xi (xj8 hf) (by omega)
       · split at hw
         · rename_i h2
           have hpot:=j5 hx h2
           have hk:(-1:Int)≤1∧(1:Int)≤1:=by omega
           have hm5:(7*m+20+4)*pw l.length≤588245:=by
            have:(7*m+20+4)*pw l.length≤(7*m+28)*pw l.length:=Int.mul_le_mul_of_nonneg_right (by omega) (by omega)
            omega
           have hp':=xi hp (show m≤7*m+20 by omega)
           have hq':=xi hq (show m≤7*m+20 by omega)
           have hr':=xi hr (show m≤7*m+20 by omega)
           obtain h|h|h:x.Pot.toNat=0∨x.Pot.toNat=1∨x.Pot.toNat=2:=by omega
           · rw [h] at hw
             exact ih l hl' _ q r guards tells (7*m+20) (by omega) hm5 hok' (xi (yw hp hf hk) (by omega)) hq' hr' hg ht w hw
           · rw [h] at hw
             exact ih l hl' p _ r guards tells (7*m+20) (by omega) hm5 hok' hp' (xi (yw hq hf hk) (by omega)) hr' hg ht w hw
           · rw [h] at hw
             exact ih l hl' p q _ guards tells (7*m+20) (by omega) hm5 hok' hp' hq' (xi (yw hr hf hk) (by omega)) hg ht w hw
         · refine ih l hl' p q r guards _ m hm0 hm4 hok' hp hq hr hg ?_ w hw
           intro f hf'
           rcases List.mem_append.1 hf' with hf'|hf'
           · exact ht f hf'
           · simp only [List.mem_singleton] at hf'; subst hf'; exact xi hf (by omega)
theorem y6 {act:List Line}:actOk act=true↔(∀ x∈act,x.ok=true)∧act.length≤6∧tests act≤3:=by
 simp only [actOk,Bool.and_eq_true,decide_eq_true_eq,List.all_eq_true]; exact and_assoc
theorem jj {act:List Line} {r:Row} (hr:r∈rowsOf act):r.bd 588246:=by
 unfold rowsOf at hr
 split at hr
 · rename_i h
   obtain ⟨h1,h2,h3⟩:=y6.1 h
   refine xvy act.length act (Nat.le_refl _) _ _ _ [] [] 1 (by omega) ?_ h1 (z7 0) (z7 1) (z7 2) (by simp) (by simp) r hr
   have:=w9 h2
   have h6:pw 6=117649:=by decide
   omega
 · simp at hr
end Cc
end
section
namespace Cc
open Go Go.AM
set_option maxRecDepth 100000
set_option maxHeartbeats 4000000
def nums (l:List Int) (n:Nat):Prop:=l.length=n∧∀ x∈l,-10000000000≤x∧x≤10000000000
theorem nums3 {l:List Int} (h:nums l 3):∃ a b c,l=[a,b,c]∧(-10000000000≤a∧a≤10000000000)∧(-10000000000≤b∧b≤10000000000)∧(-10000000000≤c∧c≤10000000000):=by
 obtain ⟨a,b,c,rfl⟩:=len3 h.1
 exact ⟨a,b,c,rfl,h.2 a (by simp),h.2 b (by simp),h.2 c (by simp)⟩
theorem nums2 {l:List Int} (h:nums l 2):∃ a b,l=[a,b]∧(-10000000000≤a∧a≤10000000000)∧(-10000000000≤b∧b≤10000000000):=by
 obtain ⟨a,b,rfl⟩:=len2 h.1
 exact ⟨a,b,rfl,h.2 a (by simp),h.2 b (by simp)⟩
theorem qt (f:Form) (vals args:List Int) (hf:f.bd 10000000) (hv:nums vals 3) (ha:nums args 2):Sem P 220 [(.pure,.agg (aF f)),(.pure,AI vals),(.pure,AI args)] [] (I (f.at vals args)):=by
 obtain ⟨a,b,c,d,e,k,rfl,h1,h2,h3,h4,h5,h6⟩:=bdE hf
 obtain ⟨x,y,z,rfl,v1,v2,v3⟩:=nums3 hv
 obtain ⟨g,h,rfl,w1,w2⟩:=nums2 ha
 have p1:=xm h1 v1
 have p2:=xm h2 v2
 have p3:=xm h3 v3
 have p4:=xm h4 w1
 have p5:=xm h5 w2
 refine xd (E:=E0) xb xc (fn:=Go.Proofs.Tryz.f220) (by kernel_rfl) (by kernel_rfl) (fun hb=>?_)
 conv=>whnf
 (repeat' first|((first|refine sN ?_|refine dC ?_|(refine dZ ?_;refine dI ?_)|refine vM ?_|refine vD ?_|refine mS ?_)<;>conv=>whnf))
 refine Vc.loop2 (fun i n=>i≤3∧n=match i with|0=>k|1=>k+a*x|2=>k+a*x+b*y|_=>k+a*x+b*y+c*z) (fun i n=>updL [1,2,3,6,9,28,29,30,31,32,33,34,35,36,37,38,39,40,41,42,43,44] [(8,I (i:Nat)),(7,I n)] []) (fun i _=>3 - i) 0 k ⟨by omega,rfl⟩ ?_ (fun i n hi=>?_)
 · exact wl
 · obtain ⟨hi,hn⟩:=hi
   match i,hi with
   | 0,_ =>
     simp only at hn
     conv=>whnf
     repeat' first|((first|refine sN ?_|refine dC ?_|(refine dZ ?_;refine dI ?_)|refine vM ?_|refine vD ?_|refine mS ?_|(refine xa ?_ ?_<;>intro _)|refine ixK rfl ?_|refine w64 (by omega) (by omega) ?_)<;>conv=>whnf)
     refine ⟨1,n+a*x,⟨by omega,by simp only; omega⟩,by simp only; omega,?_⟩
     exact wl
   | 1,_ =>
     simp only at hn
     conv=>whnf
     repeat' first|((first|refine sN ?_|refine dC ?_|(refine dZ ?_;refine dI ?_)|refine vM ?_|refine vD ?_|refine mS ?_|(refine xa ?_ ?_<;>intro _)|refine ixK rfl ?_|refine w64 (by omega) (by omega) ?_)<;>conv=>whnf)
     refine ⟨2,n+b*y,⟨by omega,by simp only; omega⟩,by simp only; omega,?_⟩
     exact wl
   | 2,_ =>
     simp only at hn
     conv=>whnf
     repeat' first|((first|refine sN ?_|refine dC ?_|(refine dZ ?_;refine dI ?_)|refine vM ?_|refine vD ?_|refine mS ?_|(refine xa ?_ ?_<;>intro _)|refine ixK rfl ?_|refine w64 (by omega) (by omega) ?_)<;>conv=>whnf)
     refine ⟨3,n+c*z,⟨by omega,by simp only; omega⟩,by simp only; omega,?_⟩
     exact wl
   | 3,_ =>
     simp only at hn
     conv=>whnf
     (repeat' first|((first|refine sN ?_|refine dC ?_|(refine dZ ?_;refine dI ?_)|refine vM ?_|refine vD ?_|refine mS ?_)<;>conv=>whnf))
     refine Vc.loop2 (fun i m=>i≤2∧m=match i with|0=>n|1=>n+d*g|_=>n+d*g+e*h) (fun i m=>updL [2,3,6,44] [(9,I (i:Nat)),(7,I m)] []) (fun i _=>2 - i) 0 n ⟨by omega,rfl⟩ ?_ (fun i m hi=>?_)
     · exact wl
     · obtain ⟨hi,hm⟩:=hi
       match i,hi with
       | 0,_ =>
         simp only at hm
         conv=>whnf
         repeat' first|((first|refine sN ?_|refine dC ?_|(refine dZ ?_;refine dI ?_)|refine vM ?_|refine vD ?_|refine mS ?_|(refine xa ?_ ?_<;>intro _)|refine ixK rfl ?_|refine w64 (by omega) (by omega) ?_)<;>conv=>whnf)
         refine ⟨1,m+d*g,⟨by omega,by simp only; omega⟩,by simp only; omega,?_⟩
         exact wl
       | 1,_ =>
         simp only at hm
         conv=>whnf
         repeat' first|((first|refine sN ?_|refine dC ?_|(refine dZ ?_;refine dI ?_)|refine vM ?_|refine vD ?_|refine mS ?_|(refine xa ?_ ?_<;>intro _)|refine ixK rfl ?_|refine w64 (by omega) (by omega) ?_)<;>conv=>whnf)
         refine ⟨2,m+e*h,⟨by omega,by simp only; omega⟩,by simp only; omega,?_⟩
         exact wl
       | 2,_ =>
         simp only at hm
         conv=>whnf
         (repeat' first|((first|refine sN ?_|refine dC ?_|(refine dZ ?_;refine dI ?_)|refine vM ?_|refine vD ?_|refine mS ?_)<;>conv=>whnf))
         exact rI' (by simp only [Form.at,dot]; omega)
theorem za (v:Nat) (hv:v<3):Sem P 139 [(.pure,I v)] [] (.agg (aF (Form.pot v))):=by
 match v,hv with
 | 0,_|1,_|2,_ =>
   refine xd (E:={ E0 with keep:=[4000] }) xb xc (fn:=Go.Proofs.Tryz.f139) (by kernel_rfl) (by kernel_rfl) (fun hb=>?_)
   conv=>whnf
   repeat' first|((first|refine sN ?_|refine dC ?_|(refine dZ ?_;refine dI ?_)|refine vM ?_|refine vD ?_|refine mS ?_|(refine xa ?_ ?_<;>intro _)|refine ⟨_,xl _ _ _,?_⟩|refine ⟨_,zr,?_⟩|refine ioK (Nat.le_of_ble_eq_true rfl) ?_|refine rwC rfl ?_)<;>conv=>whnf)
   all_goals first|(rename_i h; exact absurd h (by decide))|exact ⟨rfl,rfl⟩
theorem z8 (f g:Form) (n:Int) (hf:f.bd 1000000000000000) (hg:g.bd 10000000) (hn : -10000000000≤n∧n≤10000000000):Sem P 270 [(.pure,.agg (aF f)),(.pure,.agg (aF g)),(.pure,I n)] [] (.agg (aF (lin f g n))):=by
 obtain ⟨a,b,c,d,e,k,rfl,h1,h2,h3,h4,h5,h6⟩:=bdE hf
 obtain ⟨a',b',c',d',e',k',rfl,g1,g2,g3,g4,g5,g6⟩:=bdE hg
 have p1:=xm hn g1
 have p2:=xm hn g2
 have p3:=xm hn g3
 have p4:=xm hn g4
 have p5:=xm hn g5
 have p6:=xm hn g6
 refine xd (E:={ E0 with keep:=[2000] }) xb xc (fn:=Go.Proofs.Tryz.f270) (by kernel_rfl) (by kernel_rfl) (fun hb=>?_)
 conv=>whnf
 repeat' first|((first|refine sN ?_|refine dC ?_|(refine dZ ?_;refine dI ?_)|refine vM ?_|refine vD ?_|refine mS ?_|(refine xa ?_ ?_<;>intro _)|refine ⟨_,zr,?_⟩)<;>conv=>whnf)
 refine Vc.loop2 (fun i l=>i≤3∧l=match i with|0=>[0,0,0]|1=>[a+n*a',0,0]|2=>[a+n*a',b+n*b',0]|_=>[a+n*a',b+n*b',c+n*c']) (fun i l=>updL [2,3,4,6,7,9,32,33,34,35,36,37,38,39,40,41,42,43,44,45,46,47,48,49,50,51,52,53,54,55,56,57,58,59,60,61] [(8,I (i:Nat))] [(128000,.arr 3 (ints l) false)]) (fun i _=>3 - i) 0 [0,0,0] ⟨by omega,rfl⟩ ?_ (fun i l hi=>?_)
 · exact wl
 · obtain ⟨hi,hl⟩:=hi
   match i,hi with
   | 0,_ =>
     simp only at hl; subst hl
     conv=>whnf
     repeat' first|((first|refine sN ?_|refine dC ?_|(refine dZ ?_;refine dI ?_)|refine vM ?_|refine vD ?_|refine mS ?_|(refine xa ?_ ?_<;>intro _)|refine ixK rfl ?_|refine w64 (by omega) (by omega) ?_|refine ioK (Nat.le_of_ble_eq_true rfl) ?_|refine rwC rfl ?_)<;>conv=>whnf)
     refine ⟨1,[a+n*a',0,0],⟨by omega,rfl⟩,by simp only; omega,?_⟩
     exact wl
   | 1,_ =>
     simp only at hl; subst hl
     conv=>whnf
     repeat' first|((first|refine sN ?_|refine dC ?_|(refine dZ ?_;refine dI ?_)|refine vM ?_|refine vD ?_|refine mS ?_|(refine xa ?_ ?_<;>intro _)|refine ixK rfl ?_|refine w64 (by omega) (by omega) ?_|refine ioK (Nat.le_of_ble_eq_true rfl) ?_|refine rwC rfl ?_)<;>conv=>whnf)
     refine ⟨2,[a+n*a',b+n*b',0],⟨by omega,rfl⟩,by simp only; omega,?_⟩
     exact wl
   | 2,_ =>
     simp only at hl; subst hl
     conv=>whnf
     repeat' first|((first|refine sN ?_|refine dC ?_|(refine dZ ?_;refine dI ?_)|refine vM ?_|refine vD ?_|refine mS ?_|(refine xa ?_ ?_<;>intro _)|refine ixK rfl ?_|refine w64 (by omega) (by omega) ?_|refine ioK (Nat.le_of_ble_eq_true rfl) ?_|refine rwC rfl ?_)<;>conv=>whnf)
     refine ⟨3,[a+n*a',b+n*b',c+n*c'],⟨by omega,rfl⟩,by simp only; omega,?_⟩
     exact wl
   | 3,_ =>
     simp only at hl; subst hl
     conv=>whnf
     (repeat' first|((first|refine sN ?_|refine dC ?_|(refine dZ ?_;refine dI ?_)|refine vM ?_|refine vD ?_|refine mS ?_)<;>conv=>whnf))
     refine Vc.loop2 (fun i l=>i≤2∧l=match i with|0=>[0,0]|1=>[d+n*d',0]|_=>[d+n*d',e+n*e']) (fun i l=>updL [2,3,4,6,7,53,54,55,56,57,58,59,60,61] [(9,I (i:Nat))] [(128001,.arr 3 (ints l) false)]) (fun i _=>2 - i) 0 [0,0] ⟨by omega,rfl⟩ ?_ (fun i l hi=>?_)
     · exact wl
     · obtain ⟨hi,hl⟩:=hi
       match i,hi with
       | 0,_ =>
         simp only at hl; subst hl
         conv=>whnf
         repeat' first|((first|refine sN ?_|refine dC ?_|(refine dZ ?_;refine dI ?_)|refine vM ?_|refine vD ?_|refine mS ?_|(refine xa ?_ ?_<;>intro _)|refine ixK rfl ?_|refine w64 (by omega) (by omega) ?_|refine ioK (Nat.le_of_ble_eq_true rfl) ?_|refine rwC rfl ?_)<;>conv=>whnf)
         refine ⟨1,[d+n*d',0],⟨by omega,rfl⟩,by simp only; omega,?_⟩
         exact wl
       | 1,_ =>
         simp only at hl; subst hl
         conv=>whnf
         repeat' first|((first|refine sN ?_|refine dC ?_|(refine dZ ?_;refine dI ?_)|refine vM ?_|refine vD ?_|refine mS ?_|(refine xa ?_ ?_<;>intro _)|refine ixK rfl ?_|refine w64 (by omega) (by omega) ?_|refine ioK (Nat.le_of_ble_eq_true rfl) ?_|refine rwC rfl ?_)<;>conv=>whnf)
         refine ⟨2,[d+n*d',e+n*e'],⟨by omega,rfl⟩,by simp only; omega,?_⟩
         exact wl
       | 2,_ =>
         simp only at hl; subst hl
         conv=>whnf
         repeat' first|((first|refine sN ?_|refine dC ?_|(refine dZ ?_;refine dI ?_)|refine vM ?_|refine vD ?_|refine mS ?_|(refine xa ?_ ?_<;>intro _))<;>conv=>whnf)|(refine w64 (by dsimp only; omega) (by dsimp only; omega) ?_;conv=>whnf)
         exact ⟨rfl,rfl⟩
theorem xb1:Form.zero.bd 0:=⟨⟨rfl,rfl⟩,by simp [Form.zero],by simp [Form.zero],by decide,by decide⟩
theorem xpd (f:Form) (hf:f.bd 10000000):Sem P 269 [(.pure,.agg (aF f))] [] (.agg (aF (minus f))):=by
 have h:=hf.2.2.2
 refine xd (E:={ E0 with keep:=[2002] }) xb xc (fn:=Go.Proofs.Tryz.f269) (by kernel_rfl) (by kernel_rfl) (fun hb=>?_)
 conv=>whnf
 repeat' first|((first|refine sN ?_|refine dC ?_|(refine dZ ?_;refine dI ?_)|refine vM ?_|refine vD ?_|refine mS ?_|(refine xa ?_ ?_<;>intro _)|refine ⟨_,zr,?_⟩|refine ⟨_,z8 Form.zero f (-1) (xi xb1 (by decide)) hf (by decide),?_⟩)<;>conv=>whnf)|(refine w64 (by simp only [lin,Form.zero]; omega) (by simp only [lin,Form.zero]; omega) ?_;conv=>whnf)
 exact ⟨rfl,rfl⟩
end Cc
end
section
namespace Cc
open Go Go.AM
set_option maxRecDepth 100000
set_option maxHeartbeats 4000000
theorem xj9 (f:Form):f=Form.nil↔f.C=[]∧f.D=[]∧f.K=0:=by
 obtain ⟨C,D,K⟩:=f
 simp [Form.nil]
theorem xka {l:List Int}:(ints l).length=0↔l=[]:=by simp
theorem xru (l:Line):Sem P 266 [(.pure,.agg (aL l))] [] (B l.ok):=by
 refine xd (E:=E0) xb xc (fn:=Go.Proofs.Tryz.f266) (by kernel_rfl) (by kernel_rfl) (fun hb=>?_)
 have hb1:(ints l.Form.C).length≤1125899906842624:=(hb.1 (sI l.Form.C) (by simp)).1
 have hb2:(ints l.Form.D).length≤1125899906842624:=(hb.1 (sI l.Form.D) (by simp)).1
 conv=>whnf
 repeat' first|((first|refine sN ?_|refine dC ?_|(refine dZ ?_;refine dI ?_)|refine vM ?_|refine vD ?_|refine mS ?_|(refine xa ?_ ?_<;>intro _)|refine ⟨_,xl _ _ _,?_⟩|refine ⟨_,xpb l.Form,?_⟩|refine w64 (by omega) (by omega) ?_)<;>conv=>whnf)
 all_goals first
  | (refine rB ?_; simp_all [Line.ok,xj9]; done)
  | (rename_i h
     refine rB ?_
     by_cases hl:((ints l.Form.C).length:Int)+(ints l.Form.D).length=0
     · have c:=xka.1 (show (ints l.Form.C).length=0 by omega)
       have d:=xka.1 (show (ints l.Form.D).length=0 by omega)
       by_cases k:l.Form.K=0<;>simp_all [Line.ok,xj9]
     · have h':l.Form≠Form.nil:=fun e=>hl (by rw [e]; rfl)
       simp_all [Line.ok])
theorem xnp (a b:List Int):Sem P 273 [(.pure,AI a),(.pure,AI b)] [] (B (decide (a=b))):=by
 refine xd (E:=E0) xb xc (fn:=Go.Proofs.Tryz.f273) (by kernel_rfl) (by kernel_rfl) (fun hb=>?_)
 have la:=xe a
 have lb:=xe b
 have hb1:(ints a).length≤1125899906842624:=hb.1.1
 conv=>whnf
 (repeat' first|((first|refine sN ?_|refine dC ?_|(refine dZ ?_;refine dI ?_)|refine vM ?_|refine vD ?_|refine mS ?_)<;>conv=>whnf))
 refine xa (fun h=>?_) (fun h=>?_)
 all_goals conv=>whnf
 all_goals (repeat' first|((first|refine sN ?_|refine dC ?_|(refine dZ ?_;refine dI ?_)|refine vM ?_|refine vD ?_|refine mS ?_)<;>conv=>whnf))
 · exact rB (by have:=yt h; symm; simp; intro e; subst e; simp at this)
 · have h:=yu h
   refine Vc.loop { i:Nat // ∀ j,j<i→a.getD j 0=b.getD j 0 } (fun i=>updL [0,1,12] [(13,I i.1)] []) (fun i=>a.length - i.1) ⟨0,by simp⟩ ?_ (fun i=>?_)
   · exact wl
   · have hi:=i.2
     conv=>whnf
     (repeat' first|((first|refine sN ?_|refine dC ?_|(refine dZ ?_;refine dI ?_)|refine vM ?_|refine vD ?_|refine mS ?_)<;>conv=>whnf))
     refine xg (fun g=>?_) (fun g=>?_)
     all_goals conv=>whnf
     · repeat' first|((first|refine sN ?_|refine dC ?_|(refine dZ ?_;refine dI ?_)|refine vM ?_|refine vD ?_|refine mS ?_|(refine xa ?_ ?_<;>intro _)|refine ixN (enc:=rI) 0 (by omega) ?_|refine w64 (by omega) (by omega) ?_)<;>conv=>whnf)
       · rename_i g'
         exact rB (by have:=yt g'; symm; simp; intro e; subst e; simp at this)
       · rename_i g'
         have e:=yu g'
         refine ⟨⟨i.1+1,fun j hj=>?_⟩,?_,?_⟩
         · by_cases h:j<i.1
           · exact hi j h
           · obtain rfl:j=i.1:=by omega
             exact e
         · simp only; omega
         · exact wl
     · (repeat' first|((first|refine sN ?_|refine dC ?_|(refine dZ ?_;refine dI ?_)|refine vM ?_|refine vD ?_|refine mS ?_)<;>conv=>whnf))
       exact rB (by symm; simp; exact jh 0 (by omega) fun j hj=>hi j (by omega))
theorem xrv (f g:Form):Sem P 227 [(.pure,.agg (aF f)),(.pure,.agg (aF g))] [] (B (decide (f=g))):=by
 refine xd (E:=E0) xb xc (fn:=Go.Proofs.Tryz.f227) (by kernel_rfl) (by kernel_rfl) (fun hb=>?_)
 conv=>whnf
 repeat' first|((first|refine sN ?_|refine dC ?_|(refine dZ ?_;refine dI ?_)|refine vM ?_|refine vD ?_|refine mS ?_|(refine xa ?_ ?_<;>intro _)|refine ⟨_,xnp _ _,?_⟩)<;>conv=>whnf)
 all_goals exact rB (by obtain ⟨C,D,K⟩:=f; obtain ⟨C',D',K'⟩:=g; simp_all)
theorem xrw (l:Line):Sem P 151 [(.pure,.agg (aL l))] [] (B l.ok):=by
 refine xd (E:=E0) xb xc (fn:=Go.Proofs.Tryz.f151) (by kernel_rfl) (by kernel_rfl) (fun hb=>?_)
 conv=>whnf
 repeat' first|((first|refine sN ?_|refine dC ?_|(refine dZ ?_;refine dI ?_)|refine vM ?_|refine vD ?_|refine mS ?_|(refine xa ?_ ?_<;>intro _)|refine ⟨_,yd _ _ _,?_⟩|refine ⟨_,xpc l.Form,?_⟩|refine ⟨_,xrv l.Form Form.nil,?_⟩)<;>conv=>whnf)
 all_goals exact rB (by simp_all [Line.ok])
end Cc
end
section
namespace Cc
open Go Go.AM
set_option maxRecDepth 100000
set_option maxHeartbeats 4000000
theorem xgo {act:List Line} {i:Nat} (h:i<act.length):tests (act.take (i+1))=tests (act.take i)+if (act.getD i default).Kind=1 then 1 else 0:=by
 rw [List.take_add_one,tests,tests,List.countP_append,List.getD_eq_getElem?_getD,List.getElem?_eq_getElem h]
 by_cases k:(act[i]).Kind=1<;>simp [k]
theorem qp (act:List Line):Sem P 219 [(.pure,.one (sLs act))] [] (B (actOk act)):=by
 refine xd (E:=E0) xb xc (fn:=Go.Proofs.Tryz.f219) (by kernel_rfl) (by kernel_rfl) (fun hb=>?_)
 have la:(act.map eL).length=act.length:=List.length_map ..
 have hb1:(act.map eL).length≤1125899906842624:=hb.1.1
 conv=>whnf
 (repeat' first|((first|refine sN ?_|refine dC ?_|(refine dZ ?_;refine dI ?_)|refine vM ?_|refine vD ?_|refine mS ?_)<;>conv=>whnf))
 refine Vc.loop2 (fun (i:Nat) (n:Nat)=>i≤act.length∧n≤i∧n=tests (act.take i)∧∀ j,j<i→(act.getD j default).ok=true) (fun i n=>updL [0,25,26,27,28,29,30,31] [(4,I i),(3,I n)] []) (fun i _=>act.length - i) 0 0 ⟨by omega,by omega,rfl,by simp⟩ ?_ (fun i n hi=>?_)
 · exact wl
 · obtain ⟨hi,hn,ht,ho⟩:=hi
   conv=>whnf
   (repeat' first|((first|refine sN ?_|refine dC ?_|(refine dZ ?_;refine dI ?_)|refine vM ?_|refine vD ?_|refine mS ?_)<;>conv=>whnf))
   refine xg (fun g=>?_) (fun g=>?_)
   all_goals conv=>whnf
   · have ts:=xgo (act:=act) (i:=i) (by omega)
     repeat' first|((first|refine sN ?_|refine dC ?_|(refine dZ ?_;refine dI ?_)|refine vM ?_|refine vD ?_|refine mS ?_|(refine xa ?_ ?_<;>intro _)|refine ixN (enc:=eL) default (by omega) ?_|refine ⟨_,xru (act.getD i default),?_⟩|refine w64 (by omega) (by omega) ?_)<;>conv=>whnf)
     · rename_i h
       exact rB (by symm; simp only [actOk,Bool.and_eq_false_iff]; exact .inl (.inl (zw default (j:=i) (by omega) (by simpa using h))))
     · rename_i h k
       have k:(act.getD i default).Kind=1:=by simpa using k
       rw [if_pos k] at ts
       refine ⟨i+1,n+1,⟨by omega,by omega,by omega,fun j hj=>?_⟩,by simp only; omega,?_⟩
       · by_cases h':j<i
         · exact ho j h'
         · obtain rfl:j=i:=by omega
           simpa using h
       · exact wl
     · rename_i h k
       have k:¬ (act.getD i default).Kind=1:=by simpa using k
       rw [if_neg k] at ts
       refine ⟨i+1,n,⟨by omega,by omega,by omega,fun j hj=>?_⟩,by simp only; omega,?_⟩
       · by_cases h':j<i
         · exact ho j h'
         · obtain rfl:j=i:=by omega
           simpa using h
       · exact wl
   · have e:i=act.length:=by omega
     subst e
     rw [List.take_length] at ht
     have hall:act.all Line.ok=true:=zu default ho
     (repeat' first|((first|refine sN ?_|refine dC ?_|(refine dZ ?_;refine dI ?_)|refine vM ?_|refine vD ?_|refine mS ?_)<;>conv=>whnf))
     all_goals (refine xa (fun g1=>?_) (fun g1=>?_)<;>conv=>whnf)
     all_goals (repeat' first|((first|refine sN ?_|refine dC ?_|(refine dZ ?_;refine dI ?_)|refine vM ?_|refine vD ?_|refine mS ?_)<;>conv=>whnf))
     all_goals exact rB (by rw [Bool.eq_iff_iff]; simp only [actOk,hall,Bool.true_and]; simp at g1; simp [← ht]; omega)
theorem jt (act:List Line):Sem P 64 [(.pure,.one (sLs act))] [] (B (actOk act)):=by
 refine xd (E:=E0) xb xc (fn:=Go.Proofs.Tryz.f64) (by kernel_rfl) (by kernel_rfl) (fun hb=>?_)
 have la:(act.map eL).length=act.length:=List.length_map ..
 have hb1:(act.map eL).length≤1125899906842624:=hb.1.1
 conv=>whnf
 (repeat' first|((first|refine sN ?_|refine dC ?_|(refine dZ ?_;refine dI ?_)|refine vM ?_|refine vD ?_|refine mS ?_)<;>conv=>whnf))
 refine Vc.loop2 (fun (i:Nat) (n:Nat)=>i≤act.length∧n≤i∧n=tests (act.take i)∧∀ j,j<i→(act.getD j default).ok=true) (fun i n=>updL [0,6,7,21,22,23,24,25,26,27] [(8,I i),(3,I n)] []) (fun i _=>act.length - i) 0 0 ⟨by omega,by omega,rfl,by simp⟩ ?_ (fun i n hi=>?_)
 · exact wl
 · obtain ⟨hi,hn,ht,ho⟩:=hi
   conv=>whnf
   (repeat' first|((first|refine sN ?_|refine dC ?_|(refine dZ ?_;refine dI ?_)|refine vM ?_|refine vD ?_|refine mS ?_)<;>conv=>whnf))
   refine xg (fun g=>?_) (fun g=>?_)
   all_goals conv=>whnf
   · have ts:=xgo (act:=act) (i:=i) (by omega)
     repeat' first|((first|refine sN ?_|refine dC ?_|(refine dZ ?_;refine dI ?_)|refine vM ?_|refine vD ?_|refine mS ?_|(refine xa ?_ ?_<;>intro _)|refine ixN (enc:=eL) default (by omega) ?_|refine ⟨_,xrw (act.getD i default),?_⟩|refine w64 (by omega) (by omega) ?_)<;>conv=>whnf)
     · rename_i h
       exact rB (by symm; simp only [actOk,Bool.and_eq_false_iff]; exact .inl (.inl (zw default (j:=i) (by omega) (by simpa using h))))
     · rename_i h k
       have k:(act.getD i default).Kind=1:=by simpa using k
       rw [if_pos k] at ts
       refine ⟨i+1,n+1,⟨by omega,by omega,by omega,fun j hj=>?_⟩,by simp only; omega,?_⟩
       · by_cases h':j<i
         · exact ho j h'
         · obtain rfl:j=i:=by omega
           simpa using h
       · exact wl
     · rename_i h k
       have k:¬ (act.getD i default).Kind=1:=by simpa using k
       rw [if_neg k] at ts
       refine ⟨i+1,n,⟨by omega,by omega,by omega,fun j hj=>?_⟩,by simp only; omega,?_⟩
       · by_cases h':j<i
         · exact ho j h'
         · obtain rfl:j=i:=by omega
           simpa using h
       · exact wl
   · have e:i=act.length:=by omega
     subst e
     rw [List.take_length] at ht
     have hall:act.all Line.ok=true:=zu default ho
     (repeat' first|((first|refine sN ?_|refine dC ?_|(refine dZ ?_;refine dI ?_)|refine vM ?_|refine vD ?_|refine mS ?_)<;>conv=>whnf))
     all_goals (refine xa (fun g1=>?_) (fun g1=>?_)<;>conv=>whnf)
     all_goals (repeat' first|((first|refine sN ?_|refine dC ?_|(refine dZ ?_;refine dI ?_)|refine vM ?_|refine vD ?_|refine mS ?_)<;>conv=>whnf))
     all_goals exact rB (by rw [Bool.eq_iff_iff]; simp only [actOk,hall,Bool.true_and]; simp at g1; simp [← ht]; omega)
end Cc
end
section
namespace Go.Proofs
open Go.Shelf
def Tryz.lays169_ren:Go.Shelf.Ren:=⟨fun|169=>311|n=>n,fun|70=>323|9=>9|0=>0|72=>325|37=>22|127=>336|3=>3|5=>5|n=>n,fun|n=>n⟩
theorem Tryz.lays169:Go.Proofs.Lays.n169 Tryz.prog Tryz.lays169_ren:={
 mixed:=by kernel_rfl
 f169:=Tryz.func311.trans (congrArg some (by kernel_rfl))
 t0:=Tryz.underlying0
 a0:=Tryz.isAgg0
 z0:=Tryz.sizeOf0
 v0:=Tryz.zeroValue0
 t3:=Tryz.underlying3
 a3:=Tryz.isAgg3
 z3:=Tryz.sizeOf3
 v3:=Tryz.zeroValue3
 t9:=Tryz.underlying9
 a9:=Tryz.isAgg9
 z9:=Tryz.sizeOf9
 v9:=Tryz.zeroValue9
 t37:=Tryz.underlying22
 a37:=Tryz.isAgg22
 z37:=Tryz.sizeOf22
 v37:=Tryz.zeroValue22
 t70:=Tryz.underlying323
 a70:=Tryz.isAgg323
 z70:=Tryz.sizeOf323
 v70:=Tryz.zeroValue323
 t72:=Tryz.underlying325
 a72:=Tryz.isAgg325
 z72:=Tryz.sizeOf325
 v72:=Tryz.zeroValue325
 t127:=Tryz.underlying336
 a127:=Tryz.isAgg336
 z127:=Tryz.sizeOf336
 v127:=Tryz.zeroValue336 }
theorem Tryz.Builder_Extra_169:Builder.Extra Tryz.prog Tryz.lays169_ren:={
 sizeBuilder:=by kernel_rfl
 liesBuilder:=by kernel_rfl
 t5:=Tryz.underlying5
 a5:=Tryz.isAgg5
 z5:=Tryz.sizeOf5
 v5:=Tryz.zeroValue5
 infoByte:=by kernel_rfl
 cellsByte:=by kernel_rfl
 sizeByte:=by kernel_rfl
 neB5:=by decide }
open Go.RowKit in
theorem Tryz.Builder_String_any (B b:Nat) (l:List UInt8) (w:World) (h:Lib.IsBuilder 325 5 B b (Lib.byteCells l) w) (hBw:B≤w.heap.size) :
 Calls Tryz.prog 311 #[.pointer (some ⟨b,0,none⟩)] w fun e w'=>e=.returned (.string ⟨l.toArray⟩)∧Below B w w':=Any.Builder_String_any Tryz.lays169 Tryz.Builder_Extra_169 B b l w h hBw
def Tryz.laysM171_ren:Go.Shelf.Ren:=⟨fun|171=>310|243=>320|246=>324|283=>326|284=>327|285=>328|286=>329|129=>332|317=>331|318=>333|319=>334|320=>335|337=>336|338=>337|n=>n,fun|3=>3|9=>9|2=>2|4=>4|171=>343|0=>0|53=>344|37=>22|5=>5|173=>347|212=>351|51=>352|20=>20|213=>353|46=>337|232=>356|233=>357|n=>n,fun|17=>0|18=>1|19=>2|n=>n⟩
theorem Tryz.laysM171:Go.Proofs.LaysM.n171 Tryz.prog Tryz.laysM171_ren:={
 mixed:=by kernel_rfl
 f129:=Tryz.func332.trans (congrArg some (by kernel_rfl))
 f171:=Tryz.func310.trans (congrArg some (by kernel_rfl))
 f243:=Tryz.func320.trans (congrArg some (by kernel_rfl))
 f246:=Tryz.func324.trans (congrArg some (by kernel_rfl))
 f283:=Tryz.func326.trans (congrArg some (by kernel_rfl))
 f284:=Tryz.func327.trans (congrArg some (by kernel_rfl))
 f285:=Tryz.func328.trans (congrArg some (by kernel_rfl))
 f286:=Tryz.func329.trans (congrArg some (by kernel_rfl))
 f317:=Tryz.func331.trans (congrArg some (by kernel_rfl))
 f318:=Tryz.func333.trans (congrArg some (by kernel_rfl))
 f319:=Tryz.func334.trans (congrArg some (by kernel_rfl))
 f320:=Tryz.func335.trans (congrArg some (by kernel_rfl))
 f337:=Tryz.func336.trans (congrArg some (by kernel_rfl))
 f338:=Tryz.func337.trans (congrArg some (by kernel_rfl))
 t0:=Tryz.underlying0
 a0:=Tryz.isAgg0
 z0:=Tryz.sizeOf0
 v0:=Tryz.zeroValue0
 t2:=Tryz.underlying2
 a2:=Tryz.isAgg2
 z2:=Tryz.sizeOf2
 v2:=Tryz.zeroValue2
 t3:=Tryz.underlying3
 a3:=Tryz.isAgg3
 z3:=Tryz.sizeOf3
 v3:=Tryz.zeroValue3
 t4:=Tryz.underlying4
 a4:=Tryz.isAgg4
 z4:=Tryz.sizeOf4
 v4:=Tryz.zeroValue4
 t5:=Tryz.underlying5
 a5:=Tryz.isAgg5
 z5:=Tryz.sizeOf5
 v5:=Tryz.zeroValue5
 t9:=Tryz.underlying9
 a9:=Tryz.isAgg9
 z9:=Tryz.sizeOf9
 v9:=Tryz.zeroValue9
 t20:=Tryz.underlying20
 a20:=Tryz.isAgg20
 z20:=Tryz.sizeOf20
 v20:=Tryz.zeroValue20
 t37:=Tryz.underlying22
 a37:=Tryz.isAgg22
 z37:=Tryz.sizeOf22
 v37:=Tryz.zeroValue22
 t46:=Tryz.underlying337
 a46:=Tryz.isAgg337
 z46:=Tryz.sizeOf337
 v46:=Tryz.zeroValue337
 t51:=Tryz.underlying352
 a51:=Tryz.isAgg352
 z51:=Tryz.sizeOf352
 v51:=Tryz.zeroValue352
 t53:=Tryz.underlying344
 a53:=Tryz.isAgg344
 z53:=Tryz.sizeOf344
 v53:=Tryz.zeroValue344
 t171:=Tryz.underlying343
 a171:=Tryz.isAgg343
 z171:=Tryz.sizeOf343
 v171:=Tryz.zeroValue343
 t173:=Tryz.underlying347
 a173:=Tryz.isAgg347
 z173:=Tryz.sizeOf347
 v173:=Tryz.zeroValue347
 t212:=Tryz.underlying351
 a212:=Tryz.isAgg351
 z212:=Tryz.sizeOf351
 v212:=Tryz.zeroValue351
 t213:=Tryz.underlying353
 a213:=Tryz.isAgg353
 z213:=Tryz.sizeOf353
 t232:=Tryz.underlying356
 a232:=Tryz.isAgg356
 z232:=Tryz.sizeOf356
 v232:=Tryz.zeroValue356
 t233:=Tryz.underlying357
 a233:=Tryz.isAgg357
 z233:=Tryz.sizeOf357
 v233:=Tryz.zeroValue357
 g17:=by kernel_rfl
 g18:=by kernel_rfl
 g19:=by kernel_rfl
 i0:=by kernel_rfl
 i2:=by kernel_rfl
 i3:=by kernel_rfl
 i4:=by kernel_rfl
 i5:=by kernel_rfl
 i9:=by kernel_rfl
 i20:=by kernel_rfl
 i37:=by kernel_rfl
 i46:=by kernel_rfl
 i51:=by kernel_rfl
 i53:=by kernel_rfl
 i171:=by kernel_rfl
 i173:=by kernel_rfl
 i212:=by kernel_rfl
 i232:=by kernel_rfl
 i233:=by kernel_rfl
 m17:=by kernel_rfl
 m18:=by kernel_rfl
 m19:=by kernel_rfl }
open Go.RowKit Go.Sort Go.Lib in
theorem Tryz.strconv_Itoa (n : Int) (h0 : -9223372036854775808 ≤ n) (h1 : n ≤ 9223372036854775807) (w : World) (htab : Lib.TabIs Tryz.prog w "internal/strconv.uint64pow10" .u64 Lib.pow10Tab) :
 Calls Tryz.prog 310 #[.int .i64 n] w fun e w'=>e=.returned (.string ⟨(Lib.itoa n).toArray⟩)∧∃ k os,w'=grow (w.drewN k) os:=Any.strconv_Itoa Tryz.laysM171 n h0 h1 w htab
def Tryz.laysNm215_ren:Go.Shelf.Ren:=⟨fun|15=>66|n=>n,fun|22=>24|3=>3|4=>4|n=>n,fun|n=>n⟩
theorem Tryz.laysNm215:Go.Proofs.Lays2.n15 Tryz.prog Tryz.laysNm215_ren:={
 mixed:=by kernel_rfl
 f15:=Tryz.func66.trans (congrArg some (by kernel_rfl))
 t3:=Tryz.underlying3
 a3:=Tryz.isAgg3
 z3:=Tryz.sizeOf3
 v3:=Tryz.zeroValue3
 t4:=Tryz.underlying4
 a4:=Tryz.isAgg4
 z4:=Tryz.sizeOf4
 v4:=Tryz.zeroValue4
 t22:=Tryz.underlying24
 a22:=Tryz.isAgg24
 z22:=Tryz.sizeOf24
 v22:=Tryz.zeroValue24
 i3:=by kernel_rfl }
open Go.RowKit Go.Lib in
theorem Tryz.slices_Clone_int (b off n c:Nat) (zs:List Int) (w:World) (hz:n≤zs.length) (hbig:n*8≤140737488355328) (hc:∀ j,j<zs.length→w.cell? ⟨b,off+j,none⟩=some (.int .i64 (zs.getD j 0))) :
 Calls Tryz.prog 66 #[.slice (some ⟨b,off,none⟩) n c] w fun e w'=>∃ v',e=.returned v'∧w'.ownsRow w.heap.size 3 1 v' n ((zs.take n).map (Value.int .i64))∧v'≠.slice none 0 0∧Below w.heap.size w w':=Any.slices_Clone_int Tryz.laysNm215 b off n c zs w hz hbig hc
open Go.RowKit Go.Lib in
theorem Tryz.slices_Clone_int_nil (n c:Nat) (w:World) :
 Calls Tryz.prog 66 #[.slice none n c] w fun e w'=>e=.returned (.slice none 0 0)∧w'=w:=Any.slices_Clone_int_nil Tryz.laysNm215 n c w
open Go.RowKit Go.Lib in
theorem Tryz.slices_Clone_int_zero (a:Addr) (c:Nat) (w:World) :
 Calls Tryz.prog 66 #[.slice (some a) 0 c] w fun e w'=>∃ v',e=.returned v'∧w'.ownsRow w.heap.size 3 1 v' 0 []∧v'≠.slice none 0 0∧Below w.heap.size w w':=Any.slices_Clone_int_zero Tryz.laysNm215 a c w
end Go.Proofs
end
section
namespace Go.AM
open Go Go.RowKit
set_option maxRecDepth 100000
theorem xt9 {w:World} {Z:Nat→Prop} {io:Option Io} {ins:List (Mode × TV)} {vals:List Value} {fin:List Nat} (h:InsR P w Z io ins vals fin) (hp:∀ m∈ins,m.1=Mode.pure):fin=[]∧InsR P w Z none ins vals []∧∀ w' Z',OutsR P w' Z' none ins vals [] []:=by
 induction h with
 | nil=>exact ⟨rfl,.nil,fun _ _=>.nil⟩
 | cons h t ih =>
   rename_i m v x f r xs g
   obtain ⟨h1,h2,h3⟩:=ih fun m hm=>hp m (List.mem_cons_of_mem _ hm)
   have hm:m=Mode.pure:=hp _ (List.mem_cons_self ..)
   subst hm; subst h1
   cases h with
   | pone h=>exact ⟨rfl,.cons (f:=[]) (.pone h) h2,fun w' Z'=>.pure (h3 w' Z')⟩
   | pagg h=>exact ⟨rfl,.cons (f:=[]) (.pagg h) h2,fun w' Z'=>.pure (h3 w' Z')⟩
theorem xkb {f : Nat} {ins : List (Mode × TV)} {res : TV} (hf : ∃ fn, (P : Program).funcs[f]? = some fn ∧ fn.body.isNone = false ∧ (fn.name == "runtime.NumGoroutine") = false) (hp : ∀ m ∈ ins, m.1 = Mode.pure)
 (h:∀ (w:World) (Z:Nat→Prop) (vals:List Value),GOk P w Z→InsR P w Z none ins vals []→(∀ b,Z b→b<w.heap.size) →
   Calls P f vals.toArray w fun e w'=>∃ v fs,e=.returned v∧Below w.heap.size w w'∧(∀ Z',ResR P w' Z' res v fs)∧fs.Nodup∧∀ b∈fs,w.heap.size≤b∧b<w'.heap.size):Sem P f ins [] res:=by
 refine ⟨hf,fun w Z io vals fin hG hI hio hnd hfin hZ=>?_⟩
 obtain ⟨rfl,hI',ho⟩:=xt9 hI hp
 have hio:io=none:=by
  rcases hio with h|⟨lo,hi,v,hm⟩
  · exact h
  · cases hp _ hm
 subst hio
 refine (h w Z vals hG hI' fun b hb=>(hZ b hb).1).mono ?_
 rintro e w' ⟨v,fs,rfl,hb,hr,hn,hfs⟩
 refine ⟨v,rfl,Z,fs,[],⟨hb.os,hb.tape,hb.output,hb.size,fun k hk _ _=>hb.block k hk,fun i hi=>by cases hi⟩,fun b hb=>hb,fun b hz=>⟨.inl hz,Nat.lt_of_lt_of_le (hZ b hz).1 hb.size,fun i hi=>by cases hi⟩,hr Z,ho _ _,by simpa using hn,fun b hbm=>?_⟩
 have hbm:b∈fs:=by simpa using hbm
 exact ⟨.inr (hfs b hbm).1,(hfs b hbm).2,fun hz=>absurd (hZ b hz).1 (Nat.not_lt.2 (hfs b hbm).1),fun i hi=>by cases hi⟩
theorem xnq {w:World} {Z:Nat→Prop} {io:Option Io} {av:AV} {vals:List Value} {fin:List Nat} (h:InsR P w Z io [(.pure,.one av)] vals fin):∃ x,vals=[x]∧Rd P w Z av x:=by
 cases h with
 | cons h t=>cases t; cases h with|pone h=>exact ⟨_,rfl,h⟩
theorem xdv:∀ l:List Int,(ints l).flatten=l.map fun n=>eI n
 | []=>rfl
 | a::r=>by show eI a::(ints r).flatten=_; rw [xdv r]; rfl
theorem xdw:(P:Program).cellsOf 3=1:=by kernel_rfl
theorem xhq {w:World} {Z:Nat→Prop} {v:Value} {l:List Int} {n B:Nat} {cells:List Value} (hm:l.length≤1125899906842624) (ho:w.ownsRow B 3 1 v n cells) (hn:n=l.length) (hc:cells=l.map (Value.int .i64)):Ow P w Z (.sl 3 (ints l)) v v.ownBlock.toList:=by
 subst hn hc
 have h:Ow P w Z (.sl 3 (ints l)) v (v.ownBlock.toList++(List.replicate l.length ([]:List Nat)).flatten):=by
  refine .sl (cells:=l.map (Value.int .i64)) (by simpa using hm) (by intro row hr; obtain ⟨x,_,rfl⟩:=List.mem_map.1 hr; rw [xdw]; rfl) ?_ (by simp) ?_
  · rw [xdw,xe]
    refine ⟨ho.1,?_⟩
    rcases ho.2 with h|⟨g,cap,cur,h1,h2,h3⟩
    · exact .inl h
    · exact .inr ⟨g,cap,cur,h1,Nat.zero_le _,h3⟩
  · intro k av x f h1 h2 h3
    rw [xdv] at h1
    simp only [List.getElem?_map] at h1 h2
    cases hl:l[k]? with
    | none=>rw [hl] at h1; cases h1
    | some n =>
      rw [hl] at h1 h2
      obtain rfl:=Option.some.inj h1
      obtain rfl:=Option.some.inj h2
      have:f=[]:=List.eq_of_mem_replicate (List.mem_of_getElem? h3)
      subst this
      exact .prim rfl
 simpa using h
theorem xnr {w:World} {Z:Nat→Prop} {v:Value} {l:List Int} (h:Rd P w Z (.sl 3 (ints l)) v):∃ a cap,v=.slice a l.length cap∧(l≠[]→∃ b o,a=some ⟨b,o,none⟩)∧∀ b o,a=some ⟨b,o,none⟩→∀ j,j<l.length→w.cell? ⟨b,o+j,none⟩=some (.int .i64 (l.getD j 0)):=by
 cases h with
 | sl hm hl hcap hw hn hb hc hr =>
   rename_i a len cap cells
   subst hl
   rw [xe] at *
   refine ⟨a,cap,rfl,fun hl=>?_,fun b o e j hj=>?_⟩
   · obtain ⟨b,o,e',_⟩:=hb (by simpa using hl)
     exact ⟨b,o,e'⟩
   · rw [xdw,Nat.mul_one] at hn
     have hj':j<cells.length:=by omega
     have h1:=hr j (eI (l.getD j 0)) cells[j] (by rw [xdv,List.getElem?_map,List.getElem?_eq_getElem hj,List.getD_eq_getElem?_getD,List.getElem?_eq_getElem hj]; rfl) (List.getElem?_eq_getElem hj')
     have h2:=hc b o j cells[j] e (List.getElem?_eq_getElem hj')
     generalize cells[j]=x at h1 h2
     cases h1
     exact h2
theorem xcj (v:Value):v.ownBlock.toList.Nodup:=by cases v.ownBlock<;>simp
theorem xkc {w:World} {B e size n:Nat} {v:Value} {xs:List Value} (h:w.ownsRow B e size v n xs):∀ b∈v.ownBlock.toList,B≤b∧b<w.heap.size:=by
 intro b hb
 rcases h.2 with ⟨rfl,_⟩|⟨g,cap,cur,rfl,h1,h2,_⟩
 · simp [Value.ownBlock] at hb
 · simp [Value.ownBlock] at hb
   subst hb
   exact ⟨h1,(Array.getElem?_eq_some_iff.1 h2).1⟩
theorem x8 (l:List Int) (hl:l.length≤100000):Sem P 66 [(.pure,.one (.sl 3 (ints l)))] [] (.one (.sl 3 (ints l))):=by
 refine xkb (by refine ⟨Go.Proofs.Tryz.f66,?_,?_,?_⟩<;>kernel_rfl) (by simp) fun w Z vals hG hI hZ=>?_
 obtain ⟨x,rfl,hx⟩:=xnq hI
 obtain ⟨a,cap,rfl,h0,hc⟩:=xnr hx
 cases a with
 | none =>
   have hl0:l=[]:=by
    by_cases hl:l=[]
    · exact hl
    · obtain ⟨b,o,e⟩:=h0 hl; cases e
   subst hl0
   refine (Go.Proofs.Tryz.slices_Clone_int_nil _ _ w).mono ?_
   rintro e w' ⟨rfl,rfl⟩
   exact ⟨_,[],rfl,Below.refl _ _,fun Z'=>.one (xhq (cells:=[]) (B:=0) (by simp) (World.ownsRow_nil _ _ _ _) rfl rfl),by simp,by simp⟩
 | some p =>
   by_cases hl0:l=[]
   · subst hl0
     refine (Go.Proofs.Tryz.slices_Clone_int_zero p _ w).mono ?_
     rintro e w' ⟨v,rfl,ho,hn,hb⟩
     refine ⟨v,v.ownBlock.toList,rfl,hb,fun Z'=>.one (xhq (by simp) ho rfl rfl),xcj _,xkc ho⟩
   · obtain ⟨b,o,e⟩:=h0 hl0
     obtain rfl:=Option.some.inj e
     refine (Go.Proofs.Tryz.slices_Clone_int b o l.length cap l w (Nat.le_refl _) (by omega) (hc b o rfl)).mono ?_
     rintro e w' ⟨v,rfl,ho,hn,hb⟩
     refine ⟨v,v.ownBlock.toList,rfl,hb,fun Z'=>.one (xhq (by omega) ho rfl (by simp)),xcj _,xkc ho⟩
end Go.AM
end
section
namespace Cc
open Go Go.AM
set_option maxRecDepth 100000
set_option maxHeartbeats 4000000
theorem xkd:∀ {a b:List Int} {i:Nat},i<a.length→i<b.length→dot (a.take (i+1)) (b.take (i+1))=dot (a.take i) (b.take i)+a.getD i 0*b.getD i 0
 | [],_,_,h,_=>by simp at h
 | _::_,[],_,_,h=>by simp at h
 | x::a,y::b,0,_,_=>by simp [dot]
 | x::a,y::b,i+1,h,h'=>by
   have:=xkd (a:=a) (b:=b) (i:=i) (by simpa using h) (by simpa using h')
   simp only [List.take_succ_cons,dot,List.getD_cons_succ] at this ⊢
   omega
theorem kj {l:List Int} {m:Int} (h:∀ x∈l,-m≤x∧x≤m) {i:Nat} (hi:i<l.length) : -m≤l.getD i 0∧l.getD i 0≤m:=by
 rw [List.getD_eq_getElem?_getD,List.getElem?_eq_getElem hi]
 exact h _ (List.getElem_mem hi)
theorem xfo (a b:List Int) (hl:a.length≤3) (hab:a.length=b.length) (ha:∀ x∈a,-10000000≤x∧x≤10000000) (hb':∀ x∈b,-10000000000≤x∧x≤10000000000):Sem P 152 [(.pure,AI a),(.pure,AI b)] [] (I (dot a b)):=by
 refine xd (E:=E0) xb xc (fn:=Go.Proofs.Tryz.f152) (by kernel_rfl) (by kernel_rfl) (fun hb=>?_)
 have la:=xe a
 have lb:=xe b
 conv=>whnf
 (repeat' first|((first|refine sN ?_|refine dC ?_|(refine dZ ?_;refine dI ?_)|refine vM ?_|refine vD ?_|refine mS ?_)<;>conv=>whnf))
 refine Vc.loop2 (fun (i:Nat) (n:Int)=>i≤a.length∧n=dot (a.take i) (b.take i) ∧ -(i*100000000000000000:Int)≤n∧n≤i*100000000000000000) (fun i n=>updL [1,4,8,9,24] [(10,I i),(5,I n)] []) (fun i _=>a.length - i) 0 0 ⟨by omega,by simp [dot],by simp,by simp⟩ ?_ (fun i n hi=>?_)
 · exact wl
 · obtain ⟨hi,hn,h1,h2⟩:=hi
   conv=>whnf
   (repeat' first|((first|refine sN ?_|refine dC ?_|(refine dZ ?_;refine dI ?_)|refine vM ?_|refine vD ?_|refine mS ?_)<;>conv=>whnf))
   refine xg (fun g=>?_) (fun g=>?_)
   all_goals conv=>whnf
   · have e:=xkd (a:=a) (b:=b) (i:=i) (by omega) (by omega)
     have p:=xm (kj ha (i:=i) (by omega)) (kj hb' (i:=i) (by omega))
     repeat' first|((first|refine sN ?_|refine dC ?_|(refine dZ ?_;refine dI ?_)|refine vM ?_|refine vD ?_|refine mS ?_|(refine xa ?_ ?_<;>intro _)|refine ixN (enc:=rI) 0 (by omega) ?_|refine w64 (by omega) (by omega) ?_)<;>conv=>whnf)
     refine ⟨i+1,n+a.getD i 0*b.getD i 0,⟨by omega,by omega,by omega,by omega⟩,by simp only; omega,?_⟩
     exact wl
   · (repeat' first|((first|refine sN ?_|refine dC ?_|(refine dZ ?_;refine dI ?_)|refine vM ?_|refine vD ?_|refine mS ?_)<;>conv=>whnf))
     have e:i=a.length:=by omega
     subst e
     rw [List.take_length,hab,List.take_length] at hn
     exact rI' hn
theorem xgp {a b:List Int} (hl:a.length≤3) {m k:Int} (ha:∀ x∈a,-m≤x∧x≤m) (hb:∀ x∈b,-k≤x∧x≤k) (hm:0≤m*k) : -(3*(m*k))≤dot a b∧dot a b≤3*(m*k):=by
 match a,b,hl with
 | [],_,_=>simp [dot]; omega
 | _::_,[],_=>simp [dot]; omega
 | [x],y::b,_ =>
   have:=xm (ha x (by simp)) (hb y (by simp))
   simp only [dot]; omega
 | [x,x'],[y],_ =>
   have:=xm (ha x (by simp)) (hb y (by simp))
   simp only [dot]; omega
 | [x,x'],y::y'::b,_ =>
   have:=xm (ha x (by simp)) (hb y (by simp))
   have:=xm (ha x' (by simp)) (hb y' (by simp))
   simp only [dot]; omega
 | [x,x',x''],[y],_ =>
   have:=xm (ha x (by simp)) (hb y (by simp))
   simp only [dot]; omega
 | [x,x',x''],[y,y'],_ =>
   have:=xm (ha x (by simp)) (hb y (by simp))
   have:=xm (ha x' (by simp)) (hb y' (by simp))
   simp only [dot]; omega
 | [x,x',x''],y::y'::y''::b,_ =>
   have:=xm (ha x (by simp)) (hb y (by simp))
   have:=xm (ha x' (by simp)) (hb y' (by simp))
   have:=xm (ha x'' (by simp)) (hb y'' (by simp))
   simp only [dot]; omega
theorem xhr (f:Form) (vals args:List Int) (hf:f.bd 10000000) (hv:nums vals 3) (ha:nums args 2):Sem P 67 [(.pure,.agg (aF f)),(.pure,AI vals),(.pure,AI args)] [] (I (f.at vals args)):=by
 have b1:=xgp (a:=f.C) (b:=vals) (by rw [hf.1.1]; decide) hf.2.1 hv.2 (by decide)
 have b2:=xgp (a:=f.D) (b:=args) (by rw [hf.1.2]; decide) hf.2.2.1 ha.2 (by decide)
 have b3:=hf.2.2.2
 refine xd (E:=E0) xb xc (fn:=Go.Proofs.Tryz.f67) (by kernel_rfl) (by kernel_rfl) (fun hb=>?_)
 conv=>whnf
 repeat' first|((first|refine sN ?_|refine dC ?_|(refine dZ ?_;refine dI ?_)|refine vM ?_|refine vD ?_|refine mS ?_|(refine xa ?_ ?_<;>intro _))<;>conv=>whnf)|(refine ⟨_,xfo f.C vals (by rw [hf.1.1]; decide) (by rw [hf.1.1,hv.1]) hf.2.1 hv.2,?_⟩;conv=>whnf)|(refine ⟨_,xfo f.D args (by rw [hf.1.2]; decide) (by rw [hf.1.2,ha.1]) hf.2.2.1 ha.2,?_⟩;conv=>whnf)|((first|refine w64 (by omega) (by omega) ?_)<;>conv=>whnf)
 exact ⟨rfl,rfl⟩
theorem xve (args:List Int) {act:List Line} {i:Nat} (own tells:List Int) (h:i<act.length):goLines args (act.drop i) own tells =
 if (act.getD i default).Kind=4 then none
 else if (act.getD i default).Kind=1 then (if (act.getD i default).Form.at own args<0 then goLines args (act.drop (i+1+(act.getD i default).Skip.toNat)) own tells else goLines args (act.drop (i+1)) own tells)
 else if (act.getD i default).Kind=2 then goLines args (act.drop (i+1)) (own.set (act.getD i default).Pot.toNat (own.getD (act.getD i default).Pot.toNat 0+(act.getD i default).Form.at own args)) tells
 else goLines args (act.drop (i+1)) own (tells++[(act.getD i default).Form.at own args]):=by
 rw [List.drop_eq_getElem_cons h,goLines,List.drop_drop]
 have e:act.getD i default=act[i]:=by rw [List.getD_eq_getElem?_getD,List.getElem?_eq_getElem h]; rfl
 rw [e]
theorem xrx (args:List Int) {act:List Line} {i:Nat} (own tells:List Int) (h:act.length≤i):goLines args (act.drop i) own tells=some (own,tells):=by
 rw [List.drop_eq_nil_of_le h,goLines]
def bnd:Nat→Int
 | 0=>10000
 | k+1=>7*bnd k+74
theorem xgq:∀ k,10000≤bnd k
 | 0=>by decide
 | k+1=>by have:=xgq k; simp only [bnd]; omega
theorem xke {i j:Nat} (h:i≤j):bnd i≤bnd j:=by
 induction j with
 | zero => obtain rfl : i = 0 := by omega
           exact Int.le_refl _
 | succ j ih =>
   by_cases e:i=j+1
   · rw [e]; exact Int.le_refl _
   · have:=ih (by omega)
     have:=xgq j
     simp only [bnd]; omega
theorem xkf {i:Nat} (h:i≤6):bnd i≤2000000000:=Int.le_trans (xke h) (by decide)
def potsB (own:List Int) (i:Nat):Prop:=own.length=3∧∀ x∈own,-bnd i≤x∧x≤bnd i
theorem potsB.nums {own:List Int} {i:Nat} (h:potsB own i) (hi:i≤6):nums own 3:=⟨h.1,fun x hx=>by have:=h.2 x hx; have:=xkf hi; omega⟩
theorem potsB.mono {own:List Int} {i j:Nat} (h:potsB own i) (hi:i≤j):potsB own j:=⟨h.1,fun x hx=>by have:=h.2 x hx; have:=xke hi; omega⟩
theorem potsB.zero {own:List Int} (h:valOk own=true):potsB own 0:=by
 obtain ⟨h1,h2⟩:=xh.1 h
 exact ⟨h1,fun x hx=>h2 x hx⟩
theorem j6 {args:List Int} (h:argOk args=true):nums args 2:=by
 obtain ⟨h1,h2⟩:=xh.1 h
 exact ⟨h1,fun x hx=>by have:=h2 x hx; omega⟩
theorem xw6 {args:List Int} (h:argOk args=true):∀ x∈args,-9≤x∧x≤9:=(xh.1 h).2
theorem xia {x:Line} (h:x.ok=true) (h4:¬ x.Kind=4):x.Form.small=true:=by
 unfold Line.ok at h
 split at h
 · simp at h; exact h.2
 · split at h
   · simp at h; exact h.2
   · split at h
     · simp at h; exact h.2
     · simp_all
theorem yx {f:Form} (h:f.small=true):f.bd 10000000∧(∀ x∈f.C,-2≤x∧x≤2)∧(∀ x∈f.D,-2≤x∧x≤2) ∧ -20≤f.K∧f.K≤20:=by
 obtain ⟨a,b,c,d,e,k,rfl,ha,hb,hc,hd,he,hk⟩:=xfn h
 refine ⟨bdI (by omega) (by omega) (by omega) (by omega) (by omega) (by omega),by simp; omega,by simp; omega,by simp; omega⟩
theorem j7 {f:Form} {own args:List Int} {i:Nat} (hf:f.small=true) (ho:potsB own i) (ha:argOk args=true) : -(6*bnd i+74)≤f.at own args∧f.at own args≤6*bnd i+74:=by
 obtain ⟨h0,h1,h2,h3⟩:=yx hf
 have hb:=xgq i
 have p1:=xgp (a:=f.C) (b:=own) (by rw [h0.1.1]; decide) h1 ho.2 (by omega)
 have p2:=xgp (a:=f.D) (b:=args) (by rw [h0.1.2]; decide) h2 (xw6 ha) (by decide)
 simp only [Form.at]; omega
theorem potsB.set {own:List Int} {i:Nat} {p:Nat} {n:Int} (h:potsB own i) (hn : -(6*bnd i+74)≤n∧n≤6*bnd i+74) (hp:p<3):potsB (own.set p (own.getD p 0+n)) (i+1):=by
 have hb:=xgq i
 have hq:=kj h.2 (i:=p) (by rw [h.1]; exact hp)
 refine ⟨by rw [List.length_set]; exact h.1,fun x hx=>?_⟩
 rcases List.mem_or_eq_of_mem_set hx with h'|rfl
 · have:=h.2 x h'; simp only [bnd]; omega
 · simp only [bnd]; omega
end Cc
end
section
namespace Cc
open Go Go.AM
set_option maxRecDepth 100000
set_option maxHeartbeats 4000000
theorem ixE {α:Type} {L:List α} {enc:α→List AV} {i:Nat} {x:α} {k:List AV→Prop} (h:L[i]?=some x) (hk:k (enc x)):0≤(i:Int)∧∃ row,(L.map enc)[((i:Int)).toNat]?=some row∧k row :=
 ⟨by omega,_,by rw [Int.toNat_natCast,List.getElem?_map,h]; rfl,hk⟩
theorem x3 (l:List Int):allPrim (ints l):=by
 intro row hr a ha
 obtain ⟨n,_,rfl⟩:=List.mem_map.1 hr
 exact ⟨_,List.mem_singleton.1 ha⟩
theorem apP {r:List (List AV)} {k q:Prop} (h:allPrim r) (hk:k):allPrim r∧k∨q:=.inl ⟨h,hk⟩
theorem yr (l:List Int) (i:Nat) (n:Int):(ints l).set i (rI n)=ints (l.set i n):=List.map_set.symm
theorem qa (l:List Int) (n:Int):ints l++[rI n]=ints (l++[n]):=by simp
theorem apN {a:Nat} {k:Prop} (h:a≤1048576) (hk:k):a≤1048576∧k:=⟨h,hk⟩
theorem xe6 (act:List Line) (vals args:List Int):Sem P 19 [(.pure,.one (sLs act)),(.pure,AI vals),(.pure,AI args)] [] (.tup [(true,aR (actRun act vals args).1),(false,[sI (actRun act vals args).2])]):=by
 refine xd (E:={ E0 with keep:=[4001,11002,22002] }) xb xc (fn:=Go.Proofs.Tryz.f19) (by kernel_rfl) (by kernel_rfl) (fun hb=>?_)
 have la:(act.map eL).length=act.length:=List.length_map ..
 by_cases hall:(actOk act && valOk vals && argOk args)=true
 · obtain ⟨⟨ha,hv⟩,hg⟩:(actOk act=true∧valOk vals=true)∧argOk args=true:=by simpa using hall
   have hlen:vals.length≤100000:=by rw [(potsB.zero hv).1]; decide
   have e0:actRun act vals args=endOf vals (goLines args act vals []):=by rw [actRun,if_pos hall]
   obtain ⟨hlines,h6,_⟩:=y6.1 ha
   rw [e0]
   conv=>whnf
   repeat' first|((first|refine sN ?_|refine dC ?_|(refine dZ ?_;refine dI ?_)|refine vM ?_|refine vD ?_|refine mS ?_|(refine xa ?_ ?_<;>intro _)|refine ⟨_,jt _,?_⟩|refine ⟨_,qe _,?_⟩|refine ⟨_,xci _,?_⟩|refine ⟨_,x8 vals hlen,?_⟩)<;>conv=>whnf)
   · rename_i h; rw [ha] at h; cases h
   · rename_i h; rw [hv] at h; cases h
   · rename_i h; rw [hg] at h; cases h
   · refine Vc.loop3 (fun (i:Nat) (own tells:List Int)=>i≤12∧potsB own (min i 6)∧tells.length≤i∧goLines args act vals []=goLines args (act.drop i) own tells) (fun i own tells=>updL [0,1,2,6,8,76,77,78,79,80,81,82,83,84] [(10,I i),(9,.one (.ref 320000))] [(256064,.arr 3 (ints own) false),(320000,.arr 3 (ints tells) false)]) (fun i _ _=>12 - i) 0 vals [] ⟨by omega,potsB.zero hv,by simp,rfl⟩ ?_ (fun i own tells hi=>?_)
     · exact wl
     · obtain ⟨hi,ho,ht,hgo⟩:=hi
       have lt:=xe tells
       conv=>whnf
       (repeat' first|((first|refine sN ?_|refine dC ?_|(refine dZ ?_;refine dI ?_)|refine vM ?_|refine vD ?_|refine mS ?_)<;>conv=>whnf))
       refine xg (fun g=>?_) (fun g=>?_)
       all_goals conv=>whnf
       · have hi6:i<act.length:=by omega
         have hm:min i 6=i:=by omega
         rw [hm] at ho
         rw [xve args own tells hi6] at hgo
         obtain ⟨x,hxi⟩:∃ x,act[i]?=some x:=⟨_,List.getElem?_eq_getElem hi6⟩
         have hx:x.ok=true:=hlines _ (List.mem_of_getElem? hxi)
         have ex:act.getD i default=x:=by rw [List.getD_eq_getElem?_getD,hxi]; rfl
         rw [ex] at hgo
         have hkind:=xa4 hx
         have hsk:=xa3 hx
         have hpo:=j5 hx
         have hfo:=xia hx
         obtain ⟨kind,pot,skip,form⟩:=x
         simp only at hkind hsk hpo hfo hgo
         rcases hkind with rfl|rfl|rfl|rfl
         · have hs:=hfo (by decide)
           have hsk:=hsk rfl
           have q:=j7 hs ho hg
           simp only [Int.reduceEq,if_false,if_true] at hgo
           repeat' first|((first|refine sN ?_|refine dC ?_|(refine dZ ?_;refine dI ?_)|refine vM ?_|refine vD ?_|refine mS ?_|(refine xa ?_ ?_<;>intro _)|refine ixE (enc:=eL) hxi ?_|refine ⟨_,xhr form own args (yx hs).1 (ho.nums (by omega)) (j6 hg),?_⟩|refine w64 (by first|omega|(dsimp only; omega)) (by first|omega|(dsimp only; omega)) ?_)<;>conv=>whnf)
           · rename_i h
             have h:form.at own args<0:=by simpa using h
             rw [if_pos h] at hgo
             refine ⟨i+1+skip.toNat,own,tells,⟨by omega,ho.mono (by omega),by omega,hgo⟩,by simp only; omega,?_⟩
             exact wk
           · rename_i h
             have h:¬ form.at own args<0:=by simpa using h
             rw [if_neg h] at hgo
             refine ⟨i+1,own,tells,⟨by omega,ho.mono (by omega),by omega,hgo⟩,by simp only; omega,?_⟩
             exact wl
         · have hs:=hfo (by decide)
           have hpo:=hpo rfl
           have q:=j7 hs ho hg
           have q2:=kj ho.2 (i:=pot.toNat) (by rw [ho.1]; omega)
           have q3:=xkf (i:=i) (by omega)
           have lo:=ho.1
           simp only [Int.reduceEq,if_false,if_true] at hgo
           repeat' first|((first|refine sN ?_|refine dC ?_|(refine dZ ?_;refine dI ?_)|refine vM ?_|refine vD ?_|refine mS ?_|(refine xa ?_ ?_<;>intro _)|refine ixE (enc:=eL) hxi ?_|refine ⟨_,xhr form own args (yx hs).1 (ho.nums (by omega)) (j6 hg),?_⟩|refine w64 (by first|omega|(dsimp only; omega)) (by first|omega|(dsimp only; omega)) ?_)<;>conv=>whnf)|(refine ioN (by first|omega|(dsimp only; omega)) (by rw [xe]; dsimp only; omega) ?_;conv=>whnf)|((first|refine rwN (enc:=rI) 0 (by first|omega|(dsimp only; omega)) ?_|refine ixI (enc:=rI) 0 (by first|omega|(dsimp only; omega)) (by first|omega|(dsimp only; omega)) ?_)<;>conv=>whnf)
           refine ⟨i+1,own.set pot.toNat (own.getD pot.toNat 0+form.at own args),tells,⟨by omega,by rw [show min (i+1) 6=i+1 by omega]; exact ho.set q (by omega),by omega,hgo⟩,by simp only; omega,?_⟩
           repeat' (first|exact True.intro|((conv=>whnf);first|exact True.intro|refine ⟨by rfl,?_⟩|refine ⟨by first|omega|(show (_:Int)=_;first|omega|(dsimp only;omega))|exact yr _ _ _,?_⟩|refine ⟨?_,?_⟩))
         · have hs:=hfo (by decide)
           have q:=j7 hs ho hg
           simp only [Int.reduceEq,if_false,if_true] at hgo
           repeat' first|((first|refine sN ?_|refine dC ?_|(refine dZ ?_;refine dI ?_)|refine vM ?_|refine vD ?_|refine mS ?_|(refine xa ?_ ?_<;>intro _)|refine ixE (enc:=eL) hxi ?_|refine ⟨_,xhr form own args (yx hs).1 (ho.nums (by omega)) (j6 hg),?_⟩|refine w64 (by first|omega|(dsimp only; omega)) (by first|omega|(dsimp only; omega)) ?_)<;>conv=>whnf)|(refine apN (by simp; omega) ?_;conv=>whnf)|((first|refine apP (x3 _) ?_)<;>conv=>whnf)
           refine ⟨i+1,own,tells++[form.at own args],⟨by omega,ho.mono (by omega),by rw [List.length_append]; simp; omega,hgo⟩,by simp only; omega,?_⟩
           repeat' (first|exact True.intro|((conv=>whnf);first|exact True.intro|refine ⟨by rfl,?_⟩|refine ⟨by first|omega|(show (_:Int)=_;first|omega|(dsimp only;omega))|exact qa _ _,?_⟩|refine ⟨?_,?_⟩))
         · simp only [Int.reduceEq,if_false,if_true] at hgo
           repeat' first|((first|refine sN ?_|refine dC ?_|(refine dZ ?_;refine dI ?_)|refine vM ?_|refine vD ?_|refine mS ?_|(refine xa ?_ ?_<;>intro _)|refine ixE (enc:=eL) hxi ?_|refine ⟨_,x8 vals hlen,?_⟩)<;>conv=>whnf)
           exact ⟨by rw [hgo]; rfl,rfl⟩
       · rw [xrx args own tells (by omega)] at hgo
         repeat' first|((first|refine sN ?_|refine dC ?_|(refine dZ ?_;refine dI ?_)|refine vM ?_|refine vD ?_|refine mS ?_|(refine xa ?_ ?_<;>intro _)|refine ⟨_,qe own,?_⟩|refine ⟨_,x8 vals hlen,?_⟩)<;>conv=>whnf)
         · rename_i h
           have h:valOk own=false:=by simpa using h
           exact ⟨by rw [hgo,endOf,if_neg (by simp [h])]; rfl,rfl⟩
         · rename_i h
           have h:valOk own=true:=by simpa using h
           exact ⟨by rw [hgo,endOf,if_pos h]; rfl,rfl⟩
 · have e0:actRun act vals args=(Rslt.nil,[]):=by rw [actRun,if_neg hall]
   rw [e0]
   conv=>whnf
   repeat' first|((first|refine sN ?_|refine dC ?_|(refine dZ ?_;refine dI ?_)|refine vM ?_|refine vD ?_|refine mS ?_|(refine xa ?_ ?_<;>intro _)|refine ⟨_,jt _,?_⟩|refine ⟨_,qe _,?_⟩|refine ⟨_,xci _,?_⟩)<;>conv=>whnf)
   all_goals first|exact ⟨rfl,rfl⟩|skip
   all_goals exact absurd (by simp_all) hall
theorem xua (vals own tells:List Int) (hv:vals.length≤100000):Sem P 221 [(.pure,AI vals),(.own,AI own),(.own,AI tells)] [] (.tup [(true,aR (endOf vals (some (own,tells))).1),(false,[sI (endOf vals (some (own,tells))).2])]):=by
 refine xd (E:=E0) xb xc (fn:=Go.Proofs.Tryz.f221) (by kernel_rfl) (by kernel_rfl) (fun hb=>?_)
 have lv:=xe vals
 conv=>whnf
 repeat' first|((first|refine sN ?_|refine dC ?_|(refine dZ ?_;refine dI ?_)|refine vM ?_|refine vD ?_|refine mS ?_|(refine xa ?_ ?_<;>intro _)|refine ⟨_,zc own,?_⟩)<;>conv=>whnf)|(refine apN (by simp; omega) ?_;conv=>whnf)|((first|refine apP (x3 _) ?_)<;>conv=>whnf)
 · rename_i h
   have h:valOk own=false:=by simpa using h
   exact ⟨by rw [endOf,if_neg (by simp [h])]; rfl,rfl⟩
 · rename_i h
   have h:valOk own=true:=by simpa using h
   exact ⟨by rw [endOf,if_pos h]; rfl,rfl⟩
theorem xmi (act:List Line) (vals args:List Int):Sem P 130 [(.pure,.one (sLs act)),(.pure,AI vals),(.pure,AI args)] [] (.tup [(true,aR (actRun act vals args).1),(false,[sI (actRun act vals args).2])]):=by
 refine xd (E:={ E0 with keep:=[19003] }) xb xc (fn:=Go.Proofs.Tryz.f130) (by kernel_rfl) (by kernel_rfl) (fun hb=>?_)
 have la:(act.map eL).length=act.length:=List.length_map ..
 by_cases hall:(actOk act && valOk vals && argOk args)=true
 · obtain ⟨⟨ha,hv⟩,hg⟩:(actOk act=true∧valOk vals=true)∧argOk args=true:=by simpa using hall
   have hlen:vals.length≤100000:=by rw [(potsB.zero hv).1]; decide
   have e0:actRun act vals args=endOf vals (goLines args act vals []):=by rw [actRun,if_pos hall]
   obtain ⟨hlines,h6,_⟩:=y6.1 ha
   rw [e0]
   conv=>whnf
   repeat' first|((first|refine sN ?_|refine dC ?_|(refine dZ ?_;refine dI ?_)|refine vM ?_|refine vD ?_|refine mS ?_|(refine xa ?_ ?_<;>intro _)|refine ⟨_,qp _,?_⟩|refine ⟨_,zc _,?_⟩|refine ⟨_,jr _,?_⟩)<;>conv=>whnf)|(refine apN (by simp; omega) ?_;conv=>whnf)|((first|refine apP (x3 _) ?_)<;>conv=>whnf)
   · rename_i h; rw [ha] at h; cases h
   · rename_i h; rw [hv] at h; cases h
   · rename_i h; rw [hg] at h; cases h
   · refine Vc.loop3 (fun (i:Nat) (own tells:List Int)=>i≤12∧potsB own (min i 6)∧tells.length≤i∧goLines args act vals []=goLines args (act.drop i) own tells) (fun i own tells=>updL [0,1,2,6,8,86,87,88,89,90,91] [(10,I i),(9,.one (.ref 320000))] [(256128,.arr 3 (ints own) false),(320000,.arr 3 (ints tells) false)]) (fun i _ _=>12 - i) 0 vals [] ⟨by omega,potsB.zero hv,by simp,rfl⟩ ?_ (fun i own tells hi=>?_)
     · exact wl
     · obtain ⟨hi,ho,ht,hgo⟩:=hi
       have lt:=xe tells
       conv=>whnf
       (repeat' first|((first|refine sN ?_|refine dC ?_|(refine dZ ?_;refine dI ?_)|refine vM ?_|refine vD ?_|refine mS ?_)<;>conv=>whnf))
       refine xg (fun g=>?_) (fun g=>?_)
       all_goals conv=>whnf
       · have hi6:i<act.length:=by omega
         have hm:min i 6=i:=by omega
         rw [hm] at ho
         rw [xve args own tells hi6] at hgo
         obtain ⟨x,hxi⟩:∃ x,act[i]?=some x:=⟨_,List.getElem?_eq_getElem hi6⟩
         have hx:x.ok=true:=hlines _ (List.mem_of_getElem? hxi)
         have ex:act.getD i default=x:=by rw [List.getD_eq_getElem?_getD,hxi]; rfl
         rw [ex] at hgo
         have hkind:=xa4 hx
         have hsk:=xa3 hx
         have hpo:=j5 hx
         have hfo:=xia hx
         obtain ⟨kind,pot,skip,form⟩:=x
         simp only at hkind hsk hpo hfo hgo
         rcases hkind with rfl|rfl|rfl|rfl
         · have hs:=hfo (by decide)
           have hsk:=hsk rfl
           have q:=j7 hs ho hg
           simp only [Int.reduceEq,if_false,if_true] at hgo
           repeat' first|((first|refine sN ?_|refine dC ?_|(refine dZ ?_;refine dI ?_)|refine vM ?_|refine vD ?_|refine mS ?_|(refine xa ?_ ?_<;>intro _)|refine ixE (enc:=eL) hxi ?_|refine ⟨_,qt form own args (yx hs).1 (ho.nums (by omega)) (j6 hg),?_⟩|refine w64 (by first|omega|(dsimp only; omega)) (by first|omega|(dsimp only; omega)) ?_)<;>conv=>whnf)
           · rename_i h
             have h:form.at own args<0:=by simpa using h
             rw [if_pos h] at hgo
             refine ⟨i+1+skip.toNat,own,tells,⟨by omega,ho.mono (by omega),by omega,hgo⟩,by simp only; omega,?_⟩
             exact wk
           · rename_i h
             have h:¬ form.at own args<0:=by simpa using h
             rw [if_neg h] at hgo
             refine ⟨i+1,own,tells,⟨by omega,ho.mono (by omega),by omega,hgo⟩,by simp only; omega,?_⟩
             exact wl
         · have hs:=hfo (by decide)
           have hpo:=hpo rfl
           have q:=j7 hs ho hg
           have q2:=kj ho.2 (i:=pot.toNat) (by rw [ho.1]; omega)
           have q3:=xkf (i:=i) (by omega)
           have lo:=ho.1
           simp only [Int.reduceEq,if_false,if_true] at hgo
           repeat' first|((first|refine sN ?_|refine dC ?_|(refine dZ ?_;refine dI ?_)|refine vM ?_|refine vD ?_|refine mS ?_|(refine xa ?_ ?_<;>intro _)|refine ixE (enc:=eL) hxi ?_|refine ⟨_,qt form own args (yx hs).1 (ho.nums (by omega)) (j6 hg),?_⟩|refine w64 (by first|omega|(dsimp only; omega)) (by first|omega|(dsimp only; omega)) ?_)<;>conv=>whnf)|(refine ioN (by first|omega|(dsimp only; omega)) (by rw [xe]; dsimp only; omega) ?_;conv=>whnf)|((first|refine rwN (enc:=rI) 0 (by first|omega|(dsimp only; omega)) ?_|refine ixI (enc:=rI) 0 (by first|omega|(dsimp only; omega)) (by first|omega|(dsimp only; omega)) ?_)<;>conv=>whnf)
           refine ⟨i+1,own.set pot.toNat (own.getD pot.toNat 0+form.at own args),tells,⟨by omega,by rw [show min (i+1) 6=i+1 by omega]; exact ho.set q (by omega),by omega,hgo⟩,by simp only; omega,?_⟩
           repeat' (first|exact True.intro|((conv=>whnf);first|exact True.intro|refine ⟨by rfl,?_⟩|refine ⟨by first|omega|(show (_:Int)=_;first|omega|(dsimp only;omega))|exact yr _ _ _,?_⟩|refine ⟨?_,?_⟩))
         · have hs:=hfo (by decide)
           have q:=j7 hs ho hg
           simp only [Int.reduceEq,if_false,if_true] at hgo
           repeat' first|((first|refine sN ?_|refine dC ?_|(refine dZ ?_;refine dI ?_)|refine vM ?_|refine vD ?_|refine mS ?_|(refine xa ?_ ?_<;>intro _)|refine ixE (enc:=eL) hxi ?_|refine ⟨_,qt form own args (yx hs).1 (ho.nums (by omega)) (j6 hg),?_⟩|refine w64 (by first|omega|(dsimp only; omega)) (by first|omega|(dsimp only; omega)) ?_)<;>conv=>whnf)|(refine apN (by simp; omega) ?_;conv=>whnf)|((first|refine apP (x3 _) ?_)<;>conv=>whnf)
           refine ⟨i+1,own,tells++[form.at own args],⟨by omega,ho.mono (by omega),by rw [List.length_append]; simp; omega,hgo⟩,by simp only; omega,?_⟩
           repeat' (first|exact True.intro|((conv=>whnf);first|exact True.intro|refine ⟨by rfl,?_⟩|refine ⟨by first|omega|(show (_:Int)=_;first|omega|(dsimp only;omega))|exact qa _ _,?_⟩|refine ⟨?_,?_⟩))
         · simp only [Int.reduceEq,if_false,if_true] at hgo
           repeat' first|((first|refine sN ?_|refine dC ?_|(refine dZ ?_;refine dI ?_)|refine vM ?_|refine vD ?_|refine mS ?_|(refine xa ?_ ?_<;>intro _)|refine ixE (enc:=eL) hxi ?_)<;>conv=>whnf)|(refine apN (by simp; omega) ?_;conv=>whnf)|((first|refine apP (x3 _) ?_)<;>conv=>whnf)
           exact ⟨by rw [hgo]; rfl,rfl⟩
       · rw [xrx args own tells (by omega)] at hgo
         repeat' first|((first|refine sN ?_|refine dC ?_|(refine dZ ?_;refine dI ?_)|refine vM ?_|refine vD ?_|refine mS ?_|(refine xa ?_ ?_<;>intro _)|refine ⟨_,xua vals own tells hlen,?_⟩)<;>conv=>whnf)
         exact ⟨by rw [hgo]; rfl,rfl⟩
 · have e0:actRun act vals args=(Rslt.nil,[]):=by rw [actRun,if_neg hall]
   rw [e0]
   conv=>whnf
   repeat' first|((first|refine sN ?_|refine dC ?_|(refine dZ ?_;refine dI ?_)|refine vM ?_|refine vD ?_|refine mS ?_|(refine xa ?_ ?_<;>intro _)|refine ⟨_,qp _,?_⟩|refine ⟨_,zc _,?_⟩|refine ⟨_,jr _,?_⟩)<;>conv=>whnf)
   all_goals first|exact ⟨rfl,rfl⟩|skip
   all_goals exact absurd (by simp_all) hall
end Cc
end
section
namespace Cc
open Go Go.AM
set_option maxRecDepth 100000
set_option maxHeartbeats 4000000
theorem xpe (acts:List (List Line)):Sem P 136 [(.pure,.one (sAs acts))] [] (B (catOk acts)):=by
 refine xd (E:=E0) xb xc (fn:=Go.Proofs.Tryz.f136) (by kernel_rfl) (by kernel_rfl) (fun hb=>?_)
 have la:(acts.map eA).length=acts.length:=List.length_map ..
 have hb1:(acts.map eA).length≤1125899906842624:=hb.1.1
 conv=>whnf
 repeat' first|((first|refine sN ?_|refine dC ?_|(refine dZ ?_;refine dI ?_)|refine vM ?_|refine vD ?_|refine mS ?_|(refine xa ?_ ?_<;>intro _)|refine ⟨_,xl _ _ _,?_⟩)<;>conv=>whnf)
 · rename_i h
   exact rB (by simp_all [catOk])
 · rename_i h
   refine Vc.loop1 (fun (i:Nat)=>i≤acts.length∧∀ j,j<i→actOk (acts.getD j default)=true) (fun i=>updL [0] [(3,I i)] []) (fun i=>acts.length - i) 0 ⟨by omega,fun j hj=>absurd hj (Nat.not_lt_zero j)⟩ ?_ (fun i hi=>?_)
   · exact wl
   · obtain ⟨hi,ho⟩:=hi
     have hlm:(acts.map eA).length=acts.length:=List.length_map ..
     conv=>whnf
     (repeat' first|((first|refine sN ?_|refine dC ?_|(refine dZ ?_;refine dI ?_)|refine vM ?_|refine vD ?_|refine mS ?_)<;>conv=>whnf))
     refine xg (fun g=>?_) (fun g=>?_)
     all_goals conv=>whnf
     · repeat' first|((first|refine sN ?_|refine dC ?_|(refine dZ ?_;refine dI ?_)|refine vM ?_|refine vD ?_|refine mS ?_|(refine xa ?_ ?_<;>intro _)|refine ixN (enc:=eA) default (by omega) ?_|refine ⟨_,qp _,?_⟩|refine w64 (by first|omega|(dsimp only; omega)) (by first|omega|(dsimp only; omega)) ?_)<;>conv=>whnf)
       all_goals first
        | (refine ⟨i+1,⟨by omega,fun j hj=>?_⟩,by simp only; omega,?_⟩
           · by_cases h':j<i
             · exact ho j h'
             · obtain rfl:j=i:=by omega
               clear ho
               simp_all
           · exact wl)
        | (have hp:actOk (acts.getD i default)=false:=by (clear ho; simp_all )
           have hn:acts.all actOk=false:=zw default (j:=i) (by omega) hp
           exact rB (by simp_all [catOk]))
     · have hall:acts.all actOk=true:=zu default fun j hj=>ho j (by omega)
       repeat' first|((first|refine sN ?_|refine dC ?_|(refine dZ ?_;refine dI ?_)|refine vM ?_|refine vD ?_|refine mS ?_|(refine xa ?_ ?_<;>intro _)|refine ⟨_,qp _,?_⟩|refine w64 (by first|omega|(dsimp only; omega)) (by first|omega|(dsimp only; omega)) ?_)<;>conv=>whnf)
       exact rB (by simp_all [catOk])
theorem xxk (a:List Line):Sem P 229 [(.pure,.one (sLs a))] [] (B (!actOk a)):=by
 refine xd (E:=E0) xb xc (fn:=Go.Proofs.Tryz.f229) (by kernel_rfl) (by kernel_rfl) (fun hb=>?_)
 conv=>whnf
 repeat' first|((first|refine sN ?_|refine dC ?_|(refine dZ ?_;refine dI ?_)|refine vM ?_|refine vD ?_|refine mS ?_|(refine xa ?_ ?_<;>intro _)|refine ⟨_,jt _,?_⟩)<;>conv=>whnf)
 exact ⟨rfl,rfl⟩
theorem xmj  (l:List (List Line)):Sem P 274 [(.pure,.one (sAs l)),(.pure,.one (.fn 229 []))] [] (I (idxOf (fun (x:(List Line))=>!actOk x) l)):=by
 refine xd (E:=E0) xb xc (fn:=Go.Proofs.Tryz.f274) (by kernel_rfl) (by kernel_rfl) (fun hb=>?_)
 have la:(l.map eA).length=l.length:=List.length_map ..
 have hb1:(l.map eA).length≤1125899906842624:=hb.1.1
 conv=>whnf
 (repeat' first|((first|refine sN ?_|refine dC ?_|(refine dZ ?_;refine dI ?_)|refine vM ?_|refine vD ?_|refine mS ?_)<;>conv=>whnf))
 refine Vc.loop { i:Nat // ∀ j,j<i→j<l.length→(fun (x:(List Line))=>!actOk x) (l.getD j default)=false } (fun i=>updL [0,1,7] [(8,I i.1)] []) (fun i=>l.length - i.1) ⟨0,by simp⟩ ?_ (fun i=>?_)
 · exact wl
 · have hi:=i.2
   conv=>whnf
   (repeat' first|((first|refine sN ?_|refine dC ?_|(refine dZ ?_;refine dI ?_)|refine vM ?_|refine vD ?_|refine mS ?_)<;>conv=>whnf))
   refine xg (fun g=>?_) (fun g=>?_)
   all_goals conv=>whnf
   · repeat' first|((first|refine sN ?_|refine dC ?_|(refine dZ ?_;refine dI ?_)|refine vM ?_|refine vD ?_|refine mS ?_|(refine xa ?_ ?_<;>intro _)|refine ixN (enc:=eA) default (by omega) ?_|refine ⟨_,xxk _,?_⟩|refine w64 (by omega) (by omega) ?_)<;>conv=>whnf)
     · rename_i h
       exact rI' (y9 (p:=fun (x:(List Line))=>!actOk x) default (by omega) h fun j hj=>hi j hj (by omega)).symm
     · rename_i h
       refine ⟨⟨i.1+1,fun j hj hl=>?_⟩,?_,?_⟩
       · by_cases hji:j<i.1
         · exact hi j hji hl
         · obtain rfl:j=i.1:=by omega
           exact h
       · simp only; omega
       · exact wl
   · (repeat' first|((first|refine sN ?_|refine dC ?_|(refine dZ ?_;refine dI ?_)|refine vM ?_|refine vD ?_|refine mS ?_)<;>conv=>whnf))
     exact rI' (yq (p:=fun (x:(List Line))=>!actOk x) default fun j hj=>hi j (by omega) hj).symm
theorem xub  (l:List (List Line)):Sem P 228 [(.pure,.one (sAs l)),(.pure,.one (.fn 229 []))] [] (B (l.any fun (x:(List Line))=>!actOk x)):=by
 refine xd (E:=E0) xb xc (fn:=Go.Proofs.Tryz.f228) (by kernel_rfl) (by kernel_rfl) (fun hb=>?_)
 conv=>whnf
 repeat' first|((first|refine sN ?_|refine dC ?_|(refine dZ ?_;refine dI ?_)|refine vM ?_|refine vD ?_|refine mS ?_|(refine xa ?_ ?_<;>intro _)|refine ⟨_,xmj  l,?_⟩)<;>conv=>whnf)
 exact rB (zg _ _)
theorem xck (acts:List (List Line)):Sem P 153 [(.pure,.one (sAs acts))] [] (B (catOk acts)):=by
 refine xd (E:=E0) xb xc (fn:=Go.Proofs.Tryz.f153) (by kernel_rfl) (by kernel_rfl) (fun hb=>?_)
 have la:(acts.map eA).length=acts.length:=List.length_map ..
 conv=>whnf
 repeat' first|((first|refine sN ?_|refine dC ?_|(refine dZ ?_;refine dI ?_)|refine vM ?_|refine vD ?_|refine mS ?_|(refine xa ?_ ?_<;>intro _)|refine ⟨_,yd _ _ _,?_⟩|refine ⟨_,xub acts,?_⟩)<;>conv=>whnf)
 all_goals exact rB (by simp_all [catOk,ji])
theorem xxl (n:Int):Sem P 230 [(.pure,I n)] [] (B (!inB n 0 50)):=by
 refine xd (E:=E0) xb xc (fn:=Go.Proofs.Tryz.f230) (by kernel_rfl) (by kernel_rfl) (fun hb=>?_)
 conv=>whnf
 repeat' first|((first|refine sN ?_|refine dC ?_|(refine dZ ?_;refine dI ?_)|refine vM ?_|refine vD ?_|refine mS ?_|(refine xa ?_ ?_<;>intro _)|refine ⟨_,yd _ _ _,?_⟩)<;>conv=>whnf)
 exact ⟨rfl,rfl⟩
theorem xkg  (l:List Int):Sem P 225 [(.pure,.one (sI l)),(.pure,.one (.fn 230 []))] [] (I (idxOf (fun (x:Int)=>!inB x 0 50) l)):=by
 refine xd (E:=E0) xb xc (fn:=Go.Proofs.Tryz.f225) (by kernel_rfl) (by kernel_rfl) (fun hb=>?_)
 have la:(ints l).length=l.length:=List.length_map ..
 have hb1:(ints l).length≤1125899906842624:=hb.1.1
 conv=>whnf
 (repeat' first|((first|refine sN ?_|refine dC ?_|(refine dZ ?_;refine dI ?_)|refine vM ?_|refine vD ?_|refine mS ?_)<;>conv=>whnf))
 refine Vc.loop { i:Nat // ∀ j,j<i→j<l.length→(fun (x:Int)=>!inB x 0 50) (l.getD j default)=false } (fun i=>updL [0,1,7] [(8,I i.1)] []) (fun i=>l.length - i.1) ⟨0,by simp⟩ ?_ (fun i=>?_)
 · exact wl
 · have hi:=i.2
   conv=>whnf
   (repeat' first|((first|refine sN ?_|refine dC ?_|(refine dZ ?_;refine dI ?_)|refine vM ?_|refine vD ?_|refine mS ?_)<;>conv=>whnf))
   refine xg (fun g=>?_) (fun g=>?_)
   all_goals conv=>whnf
   · repeat' first|((first|refine sN ?_|refine dC ?_|(refine dZ ?_;refine dI ?_)|refine vM ?_|refine vD ?_|refine mS ?_|(refine xa ?_ ?_<;>intro _)|refine ixN (enc:=rI) default (by omega) ?_|refine ⟨_,xxl _,?_⟩|refine w64 (by omega) (by omega) ?_)<;>conv=>whnf)
     · rename_i h
       exact rI' (y9 (p:=fun (x:Int)=>!inB x 0 50) default (by omega) h fun j hj=>hi j hj (by omega)).symm
     · rename_i h
       refine ⟨⟨i.1+1,fun j hj hl=>?_⟩,?_,?_⟩
       · by_cases hji:j<i.1
         · exact hi j hji hl
         · obtain rfl:j=i.1:=by omega
           exact h
       · simp only; omega
       · exact wl
   · (repeat' first|((first|refine sN ?_|refine dC ?_|(refine dZ ?_;refine dI ?_)|refine vM ?_|refine vD ?_|refine mS ?_)<;>conv=>whnf))
     exact rI' (yq (p:=fun (x:Int)=>!inB x 0 50) default fun j hj=>hi j (by omega) hj).symm
theorem xry  (l:List Int):Sem P 149 [(.pure,.one (sI l)),(.pure,.one (.fn 230 []))] [] (B (l.any fun (x:Int)=>!inB x 0 50)):=by
 refine xd (E:=E0) xb xc (fn:=Go.Proofs.Tryz.f149) (by kernel_rfl) (by kernel_rfl) (fun hb=>?_)
 conv=>whnf
 repeat' first|((first|refine sN ?_|refine dC ?_|(refine dZ ?_;refine dI ?_)|refine vM ?_|refine vD ?_|refine mS ?_|(refine xa ?_ ?_<;>intro _)|refine ⟨_,xkg  l,?_⟩)<;>conv=>whnf)
 exact rB (zg _ _)
theorem xgr (t:Treaty):Sem P 154 [(.pure,.agg (aT t))] [] (B (trtOk t)):=by
 refine xd (E:=E0) xb xc (fn:=Go.Proofs.Tryz.f154) (by kernel_rfl) (by kernel_rfl) (fun hb=>?_)
 have la:=xe t.Gives
 conv=>whnf
 repeat' first|((first|refine sN ?_|refine dC ?_|(refine dZ ?_;refine dI ?_)|refine vM ?_|refine vD ?_|refine mS ?_|(refine xa ?_ ?_<;>intro _)|refine ⟨_,qe _,?_⟩|refine ⟨_,yd _ _ _,?_⟩|refine ⟨_,xry t.Gives,?_⟩)<;>conv=>whnf)
 all_goals exact rB (by simp_all [trtOk,givesOk,ji])
theorem ju (t:Treaty):Sem P 138 [(.pure,.agg (aT t))] [] (B (trtOk t)):=by
 refine xd (E:=E0) xb xc (fn:=Go.Proofs.Tryz.f138) (by kernel_rfl) (by kernel_rfl) (fun hb=>?_)
 have la:=xe t.Gives
 have hb1:(ints t.Gives).length≤1125899906842624:=(hb.1 (sI t.Gives) (by simp)).1
 conv=>whnf
 repeat' first|((first|refine sN ?_|refine dC ?_|(refine dZ ?_;refine dI ?_)|refine vM ?_|refine vD ?_|refine mS ?_|(refine xa ?_ ?_<;>intro _)|refine ⟨_,zc _,?_⟩|refine ⟨_,xl _ _ _,?_⟩)<;>conv=>whnf)
 · rename_i h
   exact rB (by simp_all [trtOk])
 · rename_i h
   exact rB (by simp_all [trtOk,givesOk])
 · rename_i h1 h2
   refine Vc.loop1 (fun (i:Nat)=>i≤t.Gives.length∧∀ j,j<i→(fun n=>inB n 0 50) (t.Gives.getD j default)=true) (fun i=>updL [1] [(3,I i)] []) (fun i=>t.Gives.length - i) 0 ⟨by omega,fun j hj=>absurd hj (Nat.not_lt_zero j)⟩ ?_ (fun i hi=>?_)
   · exact wl
   · obtain ⟨hi,ho⟩:=hi
     have hlm:(t.Gives.map rI).length=t.Gives.length:=List.length_map ..
     conv=>whnf
     (repeat' first|((first|refine sN ?_|refine dC ?_|(refine dZ ?_;refine dI ?_)|refine vM ?_|refine vD ?_|refine mS ?_)<;>conv=>whnf))
     refine xg (fun g=>?_) (fun g=>?_)
     all_goals conv=>whnf
     · repeat' first|((first|refine sN ?_|refine dC ?_|(refine dZ ?_;refine dI ?_)|refine vM ?_|refine vD ?_|refine mS ?_|(refine xa ?_ ?_<;>intro _)|refine ixN (enc:=rI) default (by omega) ?_|refine ⟨_,xl _ _ _,?_⟩|refine w64 (by first|omega|(dsimp only; omega)) (by first|omega|(dsimp only; omega)) ?_)<;>conv=>whnf)
       all_goals first
        | (refine ⟨i+1,⟨by omega,fun j hj=>?_⟩,by simp only; omega,?_⟩
           · by_cases h':j<i
             · exact ho j h'
             · obtain rfl:j=i:=by omega
               clear ho
               simp_all
           · exact wl)
        | (have hp:(fun n=>inB n 0 50) (t.Gives.getD i default)=false:=by (clear ho; simp_all )
           have hn:t.Gives.all (fun n=>inB n 0 50)=false:=zw default (j:=i) (by omega) hp
           exact rB (by simp_all [trtOk,givesOk]))
     · have hall:t.Gives.all (fun n=>inB n 0 50)=true:=zu default fun j hj=>ho j (by omega)
       repeat' first|((first|refine sN ?_|refine dC ?_|(refine dZ ?_;refine dI ?_)|refine vM ?_|refine vD ?_|refine mS ?_|(refine xa ?_ ?_<;>intro _)|refine ⟨_,xl _ _ _,?_⟩|refine w64 (by first|omega|(dsimp only; omega)) (by first|omega|(dsimp only; omega)) ?_)<;>conv=>whnf)
       exact rB (by simp_all [trtOk,givesOk])
theorem xe7 (p:Plan) (base:List Int):Sem P 155 [(.pure,.agg (aPl p)),(.pure,AI base)] [] (.agg [fI base,fI p.Gives]):=by
 refine xd (E:=E0) xb xc (fn:=Go.Proofs.Tryz.f155) (by kernel_rfl) (by kernel_rfl) (fun hb=>?_)
 conv=>whnf
 repeat' first|((first|refine sN ?_|refine dC ?_|(refine dZ ?_;refine dI ?_)|refine vM ?_|refine vD ?_|refine mS ?_|(refine xa ?_ ?_<;>intro _))<;>conv=>whnf)
 exact ⟨rfl,rfl⟩
theorem xmk (p:Plan):Sem P 68 [(.pure,.agg (aPl p))] [] (B (planOk p)):=by
 refine xd (E:=E0) xb xc (fn:=Go.Proofs.Tryz.f68) (by kernel_rfl) (by kernel_rfl) (fun hb=>?_)
 conv=>whnf
 repeat' first|((first|refine sN ?_|refine dC ?_|(refine dZ ?_;refine dI ?_)|refine vM ?_|refine vD ?_|refine mS ?_|(refine xa ?_ ?_<;>intro _)|refine ⟨_,yd _ _ _,?_⟩|refine ⟨_,xck _,?_⟩|refine ⟨_,yl _ 3 _ (by omega),?_⟩|refine ⟨_,xe7 p p.Start,?_⟩|refine ⟨_,xgr ⟨p.Start,p.Gives⟩,?_⟩)<;>conv=>whnf)
 all_goals exact rB (by simp_all [planOk,Plan.treaty])
theorem qh (p:Plan):Sem P 57 [(.pure,.agg (aPl p))] [] (B (planOk p)):=by
 refine xd (E:=E0) xb xc (fn:=Go.Proofs.Tryz.f57) (by kernel_rfl) (by kernel_rfl) (fun hb=>?_)
 conv=>whnf
 repeat' first|((first|refine sN ?_|refine dC ?_|(refine dZ ?_;refine dI ?_)|refine vM ?_|refine vD ?_|refine mS ?_|(refine xa ?_ ?_<;>intro _)|refine ⟨_,xl _ _ _,?_⟩|refine ⟨_,xpe _,?_⟩|refine ⟨_,ya _ 3 _ (by omega),?_⟩|refine ⟨_,ju ⟨p.Start,p.Gives⟩,?_⟩)<;>conv=>whnf)
 all_goals exact rB (by simp_all [planOk,Plan.treaty])
theorem xi4 (p:Plan) (n:Int) (hc:inB p.Clients 0 4=true):Sem P 94 [(.pure,.agg (aPl p)),(.pure,I n)] [] (B (isClient p n)):=by
 have hc:=xf.1 hc
 refine xd (E:=E0) xb xc (fn:=Go.Proofs.Tryz.f94) (by kernel_rfl) (by kernel_rfl) (fun hb=>?_)
 conv=>whnf
 repeat' first|((first|refine sN ?_|refine dC ?_|(refine dZ ?_;refine dI ?_)|refine vM ?_|refine vD ?_|refine mS ?_|(refine xa ?_ ?_<;>intro _)|refine ⟨_,yd _ _ _,?_⟩|refine w64 (by omega) (by omega) ?_)<;>conv=>whnf)
 exact ⟨rfl,rfl⟩
theorem xe8 (p:Plan) (c:Call) (hc:inB p.Clients 0 4=true):Sem P 157 [(.pure,.agg (aPl p)),(.pure,.agg (aC c))] [] (B (callB p c)):=by
 refine xd (E:=E0) xb xc (fn:=Go.Proofs.Tryz.f157) (by kernel_rfl) (by kernel_rfl) (fun hb=>?_)
 have la:(p.Acts.map eA).length=p.Acts.length:=List.length_map ..
 have hb1:(p.Acts.map eA).length≤1125899906842624:=(hb.1 (sAs p.Acts) (by simp)).1
 conv=>whnf
 repeat' first|((first|refine sN ?_|refine dC ?_|(refine dZ ?_;refine dI ?_)|refine vM ?_|refine vD ?_|refine mS ?_|(refine xa ?_ ?_<;>intro _)|refine ⟨_,xi4 p c.Client hc,?_⟩|refine ⟨_,yd _ _ _,?_⟩|refine ⟨_,xci _,?_⟩|refine w64 (by omega) (by omega) ?_)<;>conv=>whnf)
 all_goals exact rB (by simp_all [callB])
theorem ze (p:Plan) (c:Call) (hc:inB p.Clients 0 4=true):Sem P 93 [(.pure,.agg (aPl p)),(.pure,.agg (aC c))] [] (B (callB p c)):=by
 have hc:=xf.1 hc
 refine xd (E:=E0) xb xc (fn:=Go.Proofs.Tryz.f93) (by kernel_rfl) (by kernel_rfl) (fun hb=>?_)
 have la:(p.Acts.map eA).length=p.Acts.length:=List.length_map ..
 have hb1:(p.Acts.map eA).length≤1125899906842624:=(hb.1 (sAs p.Acts) (by simp)).1
 conv=>whnf
 repeat' first|((first|refine sN ?_|refine dC ?_|(refine dZ ?_;refine dI ?_)|refine vM ?_|refine vD ?_|refine mS ?_|(refine xa ?_ ?_<;>intro _)|refine ⟨_,xl _ _ _,?_⟩|refine ⟨_,jr _,?_⟩|refine w64 (by omega) (by omega) ?_)<;>conv=>whnf)
 all_goals exact rB (by simp_all [callB,isClient])
end Cc
end
section
namespace Go.Proofs
open Go.Shelf
def Tryz.lays166_ren:Go.Shelf.Ren:=⟨fun|166=>309|240=>319|276=>323|n=>n,fun|0=>0|3=>3|4=>4|5=>5|9=>9|20=>20|37=>22|70=>323|72=>325|75=>327|80=>330|164=>340|77=>328|n=>n,fun|n=>n⟩
theorem Tryz.lays166:Go.Proofs.Lays.n166 Tryz.prog Tryz.lays166_ren:={
 mixed:=by kernel_rfl
 f166:=Tryz.func309.trans (congrArg some (by kernel_rfl))
 f240:=Tryz.func319.trans (congrArg some (by kernel_rfl))
 f276:=Tryz.func323.trans (congrArg some (by kernel_rfl))
 t0:=Tryz.underlying0
 a0:=Tryz.isAgg0
 z0:=Tryz.sizeOf0
 v0:=Tryz.zeroValue0
 t3:=Tryz.underlying3
 a3:=Tryz.isAgg3
 z3:=Tryz.sizeOf3
 v3:=Tryz.zeroValue3
 t4:=Tryz.underlying4
 a4:=Tryz.isAgg4
 z4:=Tryz.sizeOf4
 v4:=Tryz.zeroValue4
 t9:=Tryz.underlying9
 a9:=Tryz.isAgg9
 z9:=Tryz.sizeOf9
 v9:=Tryz.zeroValue9
 t20:=Tryz.underlying20
 a20:=Tryz.isAgg20
 z20:=Tryz.sizeOf20
 v20:=Tryz.zeroValue20
 t37:=Tryz.underlying22
 a37:=Tryz.isAgg22
 z37:=Tryz.sizeOf22
 v37:=Tryz.zeroValue22
 t70:=Tryz.underlying323
 a70:=Tryz.isAgg323
 z70:=Tryz.sizeOf323
 v70:=Tryz.zeroValue323
 t72:=Tryz.underlying325
 a72:=Tryz.isAgg325
 z72:=Tryz.sizeOf325
 v72:=Tryz.zeroValue325
 t75:=Tryz.underlying327
 a75:=Tryz.isAgg327
 z75:=Tryz.sizeOf327
 v75:=Tryz.zeroValue327
 t164:=Tryz.underlying340
 a164:=Tryz.isAgg340
 z164:=Tryz.sizeOf340
 v164:=Tryz.zeroValue340 }
theorem Tryz.Builder_Extra_166:Builder.Extra Tryz.prog Tryz.lays166_ren:={
 sizeBuilder:=by kernel_rfl
 liesBuilder:=by kernel_rfl
 t5:=Tryz.underlying5
 a5:=Tryz.isAgg5
 z5:=Tryz.sizeOf5
 v5:=Tryz.zeroValue5
 infoByte:=by kernel_rfl
 cellsByte:=by kernel_rfl
 sizeByte:=by kernel_rfl
 neB5:=by decide }
open Go.RowKit in
theorem Tryz.Builder_WriteString (B b:Nat) (bs:List Value) (s:ByteArray) (w:World) (h:Lib.IsBuilder 325 5 B b bs w) (hlen:bs.length+s.size≤140737488355328) (hBw:B≤w.heap.size) :
 Calls Tryz.prog 309 #[.pointer (some ⟨b,0,none⟩),.string s] w fun e w'=>e=.returned (.tuple #[.int .i64 s.size,.nilIface])∧(Lib.BuilderAt 325 5 B b (.pointer (some ⟨b,0,none⟩)) (bs++Lib.strCells s) w'∧Below B w w'):=Any.Builder_WriteString Tryz.lays166 Tryz.Builder_Extra_166 B b bs s w h hlen hBw
end Go.Proofs
end
section
namespace Go.AM
open Go Go.RowKit Go.Sort
def joinT (l:List Int):List UInt8:=l.flatMap fun n=>32::Lib.itoa n
theorem wt {l:List Int} {k:Nat} (h:k<l.length):joinT (l.take (k+1))=joinT (l.take k)++(32::Lib.itoa (l.getD k 0)):=by
 rw [joinT,joinT,List.take_add_one,List.flatMap_append,List.getD_eq_getElem?_getD,List.getElem?_eq_getElem h]
 simp
theorem vl:∀ (k:Nat) {u:Nat},u<10 ^ (k+1)→Lib.nDigits u≤k+1
 | 0,u,h=>by rw [Lib.nDigits_small (by simpa using h)]; exact Nat.le_refl _
 | k+1,u,h=>by
   by_cases h':u<10
   · rw [Lib.nDigits_small h']; omega
   · rw [Lib.nDigits_big h']
     have:=vl k (u:=u / 10) (by rw [Nat.pow_succ] at h; omega)
     omega
theorem xak {n:Int} (h : -9223372036854775808≤n∧n≤9223372036854775807):(Lib.itoa n).length≤21:=by
 unfold Lib.itoa
 split
 · rw [List.length_cons,Lib.decDigits_length]
   have:=vl 19 (u:=n.natAbs) (by omega)
   omega
 · rw [Lib.decDigits_length]
   have:=vl 19 (u:=n.toNat) (by omega)
   omega
theorem jk:∀ {l:List Int},(∀ x∈l,-9223372036854775808≤x∧x≤9223372036854775807)→(joinT l).length≤l.length*22
 | [],_=>by simp [joinT]
 | a::r,h=>by
   have h1:=xak (h a (by simp))
   have h2:=jk (l:=r) fun x hx=>h x (by simp [hx])
   have e:joinT (a::r)=(32::Lib.itoa a)++joinT r:=rfl
   rw [e,List.length_append,List.length_cons,List.length_cons]
   omega
theorem xrz {w wr : World} (h : Lib.TabIs (P : Program) w "internal/strconv.uint64pow10" .u64 Lib.pow10Tab) (hb : Below w.heap.size w wr) : Lib.TabIs (P : Program) wr "internal/strconv.uint64pow10" .u64 Lib.pow10Tab := by
 unfold Lib.TabIs World.var? at *
 cases hg : (P : Program).globalNamed "internal/strconv.uint64pow10" with
 | none=>rw [hg] at h; cases h
 | some g =>
   rw [hg] at h
   simp only [Option.bind_some] at h ⊢
   have hlt:g<w.heap.size:=by
    by_cases hlt:g<w.heap.size
    · exact hlt
    · rw [Array.getElem?_eq_none (by omega)] at h; cases h
   rw [hb.block g hlt]
   exact h
theorem xvz {w:World} {p:Addr} {v:Value} (h:w.cell? p=some v):p.block<w.heap.size:=by
 by_cases hlt:p.block<w.heap.size
 · exact hlt
 · unfold World.cell? at h
   rw [Array.getElem?_eq_none (by omega)] at h
   cases h
theorem xkh {B b:Nat} {bs:List Value} {w:World} {T e:TypeId} (h:Lib.IsBuilder T e B b bs w) (k:Nat) (os:Array Obj):Lib.IsBuilder T e B b bs (Go.Sort.grow (w.drewN k) os):=by
 have key:∀ {p:Value},Lib.BuilderAt T e B b p bs w→Lib.BuilderAt T e B b p bs (Go.Sort.grow (w.drewN k) os):=by
  intro p h
  have hlt:=h.lt
  obtain ⟨h1,v,h2,h3,h4⟩:=h
  exact ⟨h1,v,by rw [Lib.heap_grow_old w k os b hlt]; exact h2,Lib.ownsRow_grow h3 k os,h4⟩
 rcases h with h|h
 · exact .inl (key h)
 · exact .inr (key h)
set_option maxHeartbeats 4000000 in
set_option maxRecDepth 1000000 in
theorem xml (l:List Int) (a:Option Addr) (cap:Nat) (w:World) (hl:l.length≤1000) (hbd:∀ x∈l,-9223372036854775808≤x∧x≤9223372036854775807) (h0:l≠[]→∃ b o,a=some ⟨b,o,none⟩) (hc:∀ b o,a=some ⟨b,o,none⟩→∀ j,j<l.length→w.cell? ⟨b,o+j,none⟩=some (.int .i64 (l.getD j 0)))
 (htab : Lib.TabIs (P : Program) w "internal/strconv.uint64pow10" .u64 Lib.pow10Tab) :
 Calls Go.Proofs.Tryz.prog 295 #[.slice a l.length cap] w fun e w'=>e=.returned (.string ⟨(joinT l).toArray⟩)∧Below w.heap.size w w':=by
 go_enter Go.Proofs.Tryz.func295,Go.Proofs.Tryz.ntmps295
 go_wp2
 go_loopw [8] (fun i wr=>∃ k:Nat,i=.int .i64 k∧k≤l.length∧Lib.IsBuilder 325 5 w.heap.size w.heap.size (Lib.byteCells (joinT (l.take k))) wr∧Below w.heap.size w wr) (fun i _=>l.length - (intOf i).toNat)
 case atStart =>
  exact ⟨0,rfl,Nat.zero_le _,Lib.fresh_isBuilder 325 5 w,(Below.refl _ w).alloc (Nat.le_refl _) _⟩
 case round =>
  obtain ⟨k,rfl,hk,hI,hbw⟩:=hrel
  have hsz:w.heap.size≤wr.heap.size:=hbw.size
  by_cases hkl:k<l.length
  · obtain ⟨b,o,rfl⟩:=h0 (by intro e; subst e; simp at hkl)
    have hco:=hc b o rfl k hkl
    have hcell:wr.cell? ⟨b,o+k,none⟩=some (.int .i64 (l.getD k 0)):=by
     rw [hbw.cell (xvz hco)]; exact hco
    have hgd:l.getD k 0=l[k]:=by rw [List.getD_eq_getElem?_getD,List.getElem?_eq_getElem hkl]; rfl
    rw [hgd] at hcell
    have hn:=hbd l[k] (List.getElem_mem hkl)
    have ht:=xrz htab hbw
    have hlen:=jk (l:=l.take k) fun x hx=>hbd x (List.mem_of_mem_take hx)
    rw [List.length_take,Nat.min_eq_left hk] at hlen
    have hil:=xak hn
    have hcat:(⟨#[32]⟩:ByteArray)++⟨(Lib.itoa l[k]).toArray⟩=⟨(32::Lib.itoa l[k]).toArray⟩:=by
     apply ByteArray.ext
     simp
    go_wp2_with (go_at_call 310; refine (Go.Proofs.Tryz.strconv_Itoa l[k] hn.1 hn.2 wr ht).mono ?_)
    rintro e W1 ⟨rfl,k1,os,rfl⟩
    have hI1:Lib.IsBuilder 325 5 w.heap.size w.heap.size (Lib.byteCells (joinT (l.take k))) (grow (wr.drewN k1) os):=xkh hI k1 os
    have hb1:Below w.heap.size wr (grow (wr.drewN k1) os):=Lib.below_grow _ _ hsz _ _
    have hs1:w.heap.size≤(grow (wr.drewN k1) os).heap.size:=Nat.le_trans hsz hb1.size
    generalize grow (wr.drewN k1) os=W at hI1 hb1 hs1 ⊢
    go_wp2_with (go_at_call 309; refine (Go.Proofs.Tryz.Builder_WriteString w.heap.size w.heap.size _ _ _ hI1 ?_ hs1).mono ?_)
    · rw [Lib.byteCells_length]
      show _+((32::Lib.itoa l[k]).toArray).size≤_
      rw [List.size_toArray,List.length_cons]
      omega
    · rintro e W1 ⟨rfl,h1,b1⟩
      rw [Lib.strCells_toArray,← Lib.byteCells_append] at h1
      have e1:joinT (l.take k)++(32::Lib.itoa l[k])=joinT (l.take (k+1)):=by rw [wt hkl,hgd]
      rw [e1] at h1
      go_wp2
      go_roundw
      case rel=>exact ⟨k+1,by go_num,by omega,.inr h1,(hbw.trans hb1).trans b1⟩
      case measure=>simp [intOf]; omega
  · have e:k=l.length:=by omega
    subst e
    rw [List.take_length] at hI
    go_wp2_with (go_at_call 311; refine (Go.Proofs.Tryz.Builder_String_any w.heap.size w.heap.size (joinT l) _ hI hsz).mono ?_)
    rintro e W1 ⟨rfl,b1⟩
    go_wp2
    go_ret
    exact ⟨rfl,hbw.trans b1⟩
theorem xuc {P:Program} {n:String} {g:Nat} (h:P.globalNamed n=some g):g<P.globals.size:=by
 unfold Program.globalNamed at h
 split at h
 · rename_i g' e
   obtain rfl:=Option.some.inj h
   have:g'∈(List.range P.globals.size).filter fun g=>(P.globals[g]?).any (·.name == n):=by rw [e]; simp
   exact List.mem_range.1 (List.mem_filter.1 this).1
 · cases h
theorem xv0 {w : World} {Z : Nat → Prop} (h : GOk P w Z) : Lib.TabIs (P : Program) w "internal/strconv.uint64pow10" .u64 Lib.pow10Tab := by
 obtain ⟨w0,hf,hz⟩:=h
 have hn : (P : Program).globalNamed "internal/strconv.uint64pow10" ≠ none := by
  have e : ((P : Program).globalNamed "internal/strconv.uint64pow10").isSome = true := by kernel_rfl
  intro h; rw [h] at e; cases e
 have h0:=hf.2.1 hn
 unfold Lib.TabIs World.var? at *
 cases hg : (P : Program).globalNamed "internal/strconv.uint64pow10" with
 | none=>exact absurd hg hn
 | some g =>
   rw [hg] at h0
   simp only [Option.bind_some] at h0 ⊢
   have hlt:g<(P:Program).globals.size:=xuc hg
   rw [(hz g hlt).2]
   exact h0
theorem xmm (l:List Int) (hl:l.length≤1000) (hbd:∀ x∈l,-9223372036854775808≤x∧x≤9223372036854775807):Sem P 295 [(.pure,.one (.sl 3 (ints l)))] [] (.one (.prim (.string ⟨(joinT l).toArray⟩))):=by
 refine xkb (by refine ⟨Go.Proofs.Tryz.f295,?_,?_,?_⟩<;>kernel_rfl) (by simp) fun w Z vals hG hI hZ=>?_
 obtain ⟨x,rfl,hx⟩:=xnq hI
 obtain ⟨a,cap,rfl,h0,hc⟩:=xnr hx
 refine (xml l a cap w hl hbd h0 hc (xv0 hG)).mono ?_
 rintro e w' ⟨rfl,hb⟩
 exact ⟨_,[],rfl,hb,fun Z'=>.one (.prim rfl),by simp,by simp⟩
end Go.AM
end
section
namespace Cc
open Go Go.AM
set_option maxRecDepth 100000
set_option maxHeartbeats 4000000
abbrev eT (l:List UInt8):AV:=.prim (.string ⟨l.toArray⟩)
abbrev T (l:List UInt8):TV:=.one (eT l)
theorem w8 {e:Int} {k:Int→Prop} (h1:0≤e) (h2:e≤255) (h:k e):∃ c,IntKind.u8.wrap e=c∧k c:=⟨e,by simp [IntKind.wrap,IntKind.signed,IntKind.bits]; omega,h⟩
theorem vm (a b:List UInt8):(⟨a.toArray⟩:ByteArray)++⟨b.toArray⟩=⟨(a++b).toArray⟩:=by
 apply ByteArray.ext
 simp
theorem catT {a b:List UInt8} {q:Prop} (h:a.length+b.length≤9000000000000000000) (hq:q):(((⟨a.toArray⟩:ByteArray).size+(⟨b.toArray⟩:ByteArray).size:Nat):Int)≤9223372036854775807∧q:=by
 refine ⟨?_,hq⟩
 show ((a.toArray.size+b.toArray.size:Nat):Int)≤_
 simp only [List.size_toArray]; omega
theorem byteRow {n:Int} (h:0≤n∧n≤255):[[AV.prim (Value.int .u8 n)]]=bytesRows [UInt8.ofNat n.toNat]:=by
 have e:((UInt8.ofNat n.toNat).toNat:Int)=n:=by simp; omega
 simp only [bytesRows,List.map_cons,List.map_nil,e]
theorem xi5 {u:Nat} (h:¬ u<10):Lib.decDigits u=Lib.decDigits (u / 10)++[UInt8.ofNat (48+u % 10)]:=by rw [Lib.decDigits,dif_neg h]
theorem xpf (u:Nat):Lib.nDigits u≤u+1:=by
 induction u using Nat.strongRecOn with
 | _ u ih =>
   by_cases h:u<10
   · rw [Lib.nDigits_small h]; omega
   · rw [Lib.nDigits_big h]; have:=ih (u / 10) (by omega); omega
theorem xdx (n0:Int) (h0:0≤n0) (h1:n0≤1000000000000000):Sem P 301 [(.pure,I n0)] [] (T (Lib.decDigits n0.toNat)):=by
 refine xd (E:=E0) xb xc (fn:=Go.Proofs.Tryz.f301) (by kernel_rfl) (by kernel_rfl) (fun hb=>?_)
 conv=>whnf
 (repeat' first|((first|refine sN ?_|refine dC ?_|(refine dZ ?_;refine dI ?_)|refine vM ?_|refine vD ?_|refine mS ?_)<;>conv=>whnf))
 refine xa (fun h=>?_) (fun h=>?_)
 · exfalso; simp at h; omega
 · conv=>whnf
   (repeat' first|((first|refine sN ?_|refine dC ?_|(refine dZ ?_;refine dI ?_)|refine vM ?_|refine vD ?_|refine mS ?_)<;>conv=>whnf))
   refine Vc.loop2 (fun (n:Int) (l:List UInt8)=>0≤n∧n≤n0∧Lib.decDigits n.toNat++l=Lib.decDigits n0.toNat) (fun n l=>updL [2,22,23,24,25,26,27,28] [(0,I n),(3,T l)] []) (fun n _=>n.toNat) n0 [] ⟨h0,by omega,by simp⟩ ?_ (fun n l hi=>?_)
   · exact wl
   · obtain ⟨g0,g1,g2⟩:=hi
     have hlen:l.length≤n0.toNat+1:=by
      have e:=congrArg List.length g2
      rw [List.length_append,Lib.decDigits_length,Lib.decDigits_length] at e
      have:=xpf n0.toNat
      omega
     conv=>whnf
     (repeat' first|((first|refine sN ?_|refine dC ?_|(refine dZ ?_;refine dI ?_)|refine vM ?_|refine vD ?_|refine mS ?_)<;>conv=>whnf))
     refine xg (fun g=>?_) (fun g=>?_)
     all_goals conv=>whnf
     · repeat' first|((first|refine sN ?_|refine dC ?_|(refine dZ ?_;refine dI ?_)|refine vM ?_|refine vD ?_|refine mS ?_|(refine xa ?_ ?_<;>intro _)|refine r64 (by omega) (by omega) ?_|refine w64 (by omega) (by omega) ?_|refine w8 (by omega) (by omega) ?_|refine ⟨_,byteRow (by omega),?_⟩)<;>conv=>whnf)|(refine catT (by simp; omega) ?_; rw [vm];conv=>whnf)|((first|refine q64 (by omega) (by omega) (by omega) ?_)<;>conv=>whnf)
       refine ⟨n / 10,[UInt8.ofNat (48+n % 10).toNat]++l,⟨by omega,by omega,?_⟩,by simp only; omega,?_⟩
       · rw [← g2,xi5 (u:=n.toNat) (by omega),List.append_assoc]
         have e1:(n / 10).toNat=n.toNat / 10:=by omega
         have e2:(48+n % 10).toNat=48+n.toNat % 10:=by omega
         rw [e1,e2]
       · exact wl
     · repeat' first|((first|refine sN ?_|refine dC ?_|(refine dZ ?_;refine dI ?_)|refine vM ?_|refine vD ?_|refine mS ?_|(refine xa ?_ ?_<;>intro _)|refine w64 (by omega) (by omega) ?_|refine w8 (by omega) (by omega) ?_|refine ⟨_,byteRow (by omega),?_⟩)<;>conv=>whnf)|(refine catT (by simp; omega) ?_; rw [vm];conv=>whnf)
       have e:n.toNat<10:=by omega
       rw [Lib.decDigits_one e] at g2
       have e2:(48+n).toNat=48+n.toNat:=by omega
       exact ⟨by rw [e2,g2],rfl⟩
theorem xbl (n:Int) (h0 : -1000000000000000≤n) (h1:n≤1000000000000000):Sem P 301 [(.pure,I n)] [] (T (Lib.itoa n)):=by
 by_cases hn:0≤n
 · have e:Lib.itoa n=Lib.decDigits n.toNat:=by rw [Lib.itoa,if_neg (by omega)]
   rw [e]; exact xdx n hn h1
 · have e:Lib.itoa n=45::Lib.decDigits (0 - n).toNat:=by
    rw [Lib.itoa,if_pos (by omega)]
    congr 2; omega
   have hl:(Lib.decDigits (0 - n).toNat).length≤21:=by
    rw [Lib.decDigits_length]
    have:=vl 19 (u:=(0 - n).toNat) (by omega)
    omega
   rw [e]
   refine xd (E:=E0) xb xc (fn:=Go.Proofs.Tryz.f301) (by kernel_rfl) (by kernel_rfl) (fun hb=>?_)
   conv=>whnf
   (repeat' first|((first|refine sN ?_|refine dC ?_|(refine dZ ?_;refine dI ?_)|refine vM ?_|refine vD ?_|refine mS ?_)<;>conv=>whnf))
   refine xa (fun h=>?_) (fun h=>?_)
   · conv=>whnf
     repeat' first|((first|refine sN ?_|refine dC ?_|(refine dZ ?_;refine dI ?_)|refine vM ?_|refine vD ?_|refine mS ?_|(refine xa ?_ ?_<;>intro _)|refine w64 (by omega) (by omega) ?_|refine ⟨_,xdx (0 - n) (by omega) (by omega),?_⟩)<;>conv=>whnf)|(refine catT (a:=[45]) (by rw [List.length_singleton]; omega) ?_; rw [vm [45]];conv=>whnf)
     exact ⟨rfl,rfl⟩
   · exfalso; simp at h; omega
def codeT (n:Int):List UInt8:=if n=1 then [100,111,110,101] else if n=2 then [115,116,111,112,112,101,100] else [111,118,101,114]
def resT (r:Rslt):List UInt8:=if resOk r then codeT r.Code++joinT r.Tells else []
theorem yj {r:Rslt}:resOk r=true↔(1≤r.Code∧r.Code≤3)∧(r.Code=1∨r.Tells=[])∧r.Tells.length≤6∧within r.Tells r.Tells.length 999999999999=true:=by
 simp [resOk,xf,and_assoc]
theorem xki {r:Rslt} (h:resOk r=true):∀ x∈r.Tells,-999999999999≤x∧x≤999999999999:=(xh.1 (yj.1 h).2.2.2).2
theorem xdy (n:Int):(codeT n).length≤7:=by unfold codeT; split<;>(try split)<;>decide
theorem xpg:Sem P 294 [] [] (.one (.sl 9 [[eT []],[eT [100,111,110,101]],[eT [115,116,111,112,112,101,100]],[eT [111,118,101,114]]])):=by
 refine xd (E:=E0) xb xc (fn:=Go.Proofs.Tryz.f294) (by kernel_rfl) (by kernel_rfl) (fun hb=>?_)
 conv=>whnf
 repeat' first|((first|refine sN ?_|refine dC ?_|(refine dZ ?_;refine dI ?_)|refine vM ?_|refine vD ?_|refine mS ?_|(refine xa ?_ ?_<;>intro _))<;>conv=>whnf)
 exact ⟨rfl,rfl⟩
theorem xkj (r:Rslt):Sem P 255 [(.pure,.agg (aR r))] [] (T (resT r)):=by
 by_cases hr:resOk r=true
 · have hb3:=xki hr
   have e:resT r=codeT r.Code++joinT r.Tells:=by rw [resT,if_pos hr]
   rw [e]
   obtain ⟨⟨h1,h2⟩,h3,h4,h5⟩:=yj.1 hr
   obtain ⟨code,tells⟩:=r
   simp only at h1 h2 h3 h4 h5 hb3 ⊢
   have hj:=jk (l:=tells) fun x hx=>by have:=hb3 x hx; omega
   have lt:=xe tells
   rw [← lt] at h5
   have hc:code=1∨code=2∨code=3:=by omega
   rcases hc with rfl|rfl|rfl
   all_goals
    refine xd (E:=E0) xb xc (fn:=Go.Proofs.Tryz.f255) (by kernel_rfl) (by kernel_rfl) (fun hb=>?_)
    conv=>whnf
    repeat' first|((first|refine sN ?_|refine dC ?_|(refine dZ ?_;refine dI ?_)|refine vM ?_|refine vD ?_|refine mS ?_|(refine xa ?_ ?_<;>intro _)|refine ⟨_,yd _ _ _,?_⟩|refine ⟨_,yl tells (ints tells).length _ (by omega),?_⟩|refine ⟨_,xpg,?_⟩)<;>conv=>whnf)|(refine ⟨_,xmm tells (by omega) (fun x hx=>by have:=hb3 x hx; omega),?_⟩;conv=>whnf)|(refine ixC (by dsimp only; decide) rfl ?_;conv=>whnf)|(refine catT (by simp; omega) ?_; rw [vm];conv=>whnf)
    all_goals first
     | exact ⟨rfl,rfl⟩
     | (exfalso; simp_all; done)
     | (exfalso; simp_all; omega)
 · have e:resT r=[]:=by rw [resT,if_neg hr]
   rw [e]
   refine xd (E:=E0) xb xc (fn:=Go.Proofs.Tryz.f255) (by kernel_rfl) (by kernel_rfl) (fun hb=>?_)
   have lt:=xe r.Tells
   conv=>whnf
   repeat' first|((first|refine sN ?_|refine dC ?_|(refine dZ ?_;refine dI ?_)|refine vM ?_|refine vD ?_|refine mS ?_|(refine xa ?_ ?_<;>intro _)|refine ⟨_,yd _ _ _,?_⟩|refine ⟨_,yl r.Tells (ints r.Tells).length _ (by omega),?_⟩)<;>conv=>whnf)
   all_goals first
    | exact ⟨rfl,rfl⟩
    | (exfalso; refine hr (yj.2 ?_); simp_all [xf]; done)
    | (exfalso; refine hr (yj.2 ?_); simp_all [xf]; omega)
theorem xns (l:List UInt8):(!((⟨l.toArray⟩:ByteArray).toList == (⟨#[]⟩:ByteArray).toList))=!l.isEmpty:=by
 rw [ByteArray.toList_mk,show (⟨#[]⟩:ByteArray)=⟨([]:List UInt8).toArray⟩ from rfl,ByteArray.toList_mk]
 cases l<;>rfl
theorem xnt (r:Rslt):(!(resT r).isEmpty)=resOk r:=by
 unfold resT
 cases h:resOk r
 · rfl
 · simp only [if_true]
   unfold codeT
   split<;>(try split)<;>rfl
theorem xph (r:Rslt):Sem P 192 [(.pure,.agg (aR r))] [] (B (resOk r)):=by
 refine xd (E:=E0) xb xc (fn:=Go.Proofs.Tryz.f192) (by kernel_rfl) (by kernel_rfl) (fun hb=>?_)
 conv=>whnf
 repeat' first|((first|refine sN ?_|refine dC ?_|(refine dZ ?_;refine dI ?_)|refine vM ?_|refine vD ?_|refine mS ?_|(refine xa ?_ ?_<;>intro _)|refine ⟨_,xkj r,?_⟩)<;>conv=>whnf)
 exact rB (by rw [← xnt,← xns])
theorem xkk (r:Rslt):Sem P 272 [(.pure,.agg (aR r))] [] (T (resT r)):=by
 by_cases hr:resOk r=true
 · have hb3:=xki hr
   have e:resT r=codeT r.Code++joinT r.Tells:=by rw [resT,if_pos hr]
   rw [e]
   obtain ⟨⟨h1,h2⟩,h3,h4,h5⟩:=yj.1 hr
   obtain ⟨code,tells⟩:=r
   simp only at h1 h2 h3 h4 h5 hb3 ⊢
   have lt:=xe tells
   rw [← lt] at h5
   have hc:code=1∨code=2∨code=3:=by omega
   rcases hc with rfl|rfl|rfl
   · refine xd (E:=E0) xb xc (fn:=Go.Proofs.Tryz.f272) (by kernel_rfl) (by kernel_rfl) (fun hb=>?_)
     conv=>whnf
     repeat' first|((first|refine sN ?_|refine dC ?_|(refine dZ ?_;refine dI ?_)|refine vM ?_|refine vD ?_|refine mS ?_|(refine xa ?_ ?_<;>intro _)|refine ⟨_,xl _ _ _,?_⟩|refine ⟨_,ya tells (ints tells).length _ (by omega),?_⟩|refine rwC rfl ?_)<;>conv=>whnf)|(refine ioN (by dsimp only; decide) (by dsimp only; decide) ?_;conv=>whnf)
     all_goals first
      | (exfalso; simp_all; done)
      | (exfalso; simp_all; omega)
      | skip
     refine Vc.loop2 (fun (i:Nat) (l:List UInt8)=>i≤tells.length∧l=codeT 1++joinT (tells.take i)) (fun i l=>updL [1,2,58] [(5,I i),(4,T l)] []) (fun i _=>tells.length - i) 0 (codeT 1) ⟨by omega,by simp [joinT]⟩ ?_ (fun i l hi=>?_)
     · exact wl
     · obtain ⟨hi,rfl⟩:=hi
       have hj:=jk (l:=tells.take i) fun x hx=>by have:=hb3 x (List.mem_of_mem_take hx); omega
       rw [List.length_take,Nat.min_eq_left hi] at hj
       have hw:=xdy 1
       conv=>whnf
       (repeat' first|((first|refine sN ?_|refine dC ?_|(refine dZ ?_;refine dI ?_)|refine vM ?_|refine vD ?_|refine mS ?_)<;>conv=>whnf))
       refine xg (fun g=>?_) (fun g=>?_)
       all_goals conv=>whnf
       · have hin:i<tells.length:=by simp only at g; omega
         have hm:=hb3 (tells.getD i 0) (by rw [List.getD_eq_getElem?_getD,List.getElem?_eq_getElem hin]; exact List.getElem_mem hin)
         have hil:=xak (n:=tells.getD i 0) (by omega)
         repeat' first|((first|refine sN ?_|refine dC ?_|(refine dZ ?_;refine dI ?_)|refine vM ?_|refine vD ?_|refine mS ?_|(refine xa ?_ ?_<;>intro _))<;>conv=>whnf)|(with_reducible refine catT (b:=[32]) ?_ ?_; (simp only [List.length_append,List.length_singleton]; omega); rw [vm _ [32]];conv=>whnf)|(with_reducible refine catT ?_ ?_; (simp only [List.length_append,List.length_singleton]; omega); rw [vm];conv=>whnf)|((first|refine w64 (by first|omega|(dsimp only; omega)) (by first|omega|(dsimp only; omega)) ?_|refine ⟨_,xbl (tells.getD i 0) (by omega) (by omega),?_⟩|refine ixN (enc:=rI) (L:=tells) 0 hin ?_)<;>conv=>whnf)
         refine ⟨i+1,codeT 1++joinT (tells.take i)++[32]++Lib.itoa (tells.getD i 0),⟨by omega,by rw [wt hin]; simp⟩,by simp only; omega,?_⟩
         exact wl
       · repeat' first|((first|refine sN ?_|refine dC ?_|(refine dZ ?_;refine dI ?_)|refine vM ?_|refine vD ?_|refine mS ?_|(refine xa ?_ ?_<;>intro _))<;>conv=>whnf)
         have e:i=tells.length:=by simp only at g; omega
         subst e
         exact ⟨by rw [List.take_length],rfl⟩
   · refine xd (E:=E0) xb xc (fn:=Go.Proofs.Tryz.f272) (by kernel_rfl) (by kernel_rfl) (fun hb=>?_)
     conv=>whnf
     repeat' first|((first|refine sN ?_|refine dC ?_|(refine dZ ?_;refine dI ?_)|refine vM ?_|refine vD ?_|refine mS ?_|(refine xa ?_ ?_<;>intro _)|refine ⟨_,xl _ _ _,?_⟩|refine ⟨_,ya tells (ints tells).length _ (by omega),?_⟩|refine rwC rfl ?_)<;>conv=>whnf)|(refine ioN (by dsimp only; decide) (by dsimp only; decide) ?_;conv=>whnf)
     all_goals first
      | (exfalso; simp_all; done)
      | (exfalso; simp_all; omega)
      | skip
     refine Vc.loop2 (fun (i:Nat) (l:List UInt8)=>i≤tells.length∧l=codeT 2++joinT (tells.take i)) (fun i l=>updL [1,2,58] [(5,I i),(4,T l)] []) (fun i _=>tells.length - i) 0 (codeT 2) ⟨by omega,by simp [joinT]⟩ ?_ (fun i l hi=>?_)
     · exact wl
     · obtain ⟨hi,rfl⟩:=hi
       have hj:=jk (l:=tells.take i) fun x hx=>by have:=hb3 x (List.mem_of_mem_take hx); omega
       rw [List.length_take,Nat.min_eq_left hi] at hj
       have hw:=xdy 2
       conv=>whnf
       (repeat' first|((first|refine sN ?_|refine dC ?_|(refine dZ ?_;refine dI ?_)|refine vM ?_|refine vD ?_|refine mS ?_)<;>conv=>whnf))
       refine xg (fun g=>?_) (fun g=>?_)
       all_goals conv=>whnf
       · have hin:i<tells.length:=by simp only at g; omega
         have hm:=hb3 (tells.getD i 0) (by rw [List.getD_eq_getElem?_getD,List.getElem?_eq_getElem hin]; exact List.getElem_mem hin)
         have hil:=xak (n:=tells.getD i 0) (by omega)
         repeat' first|((first|refine sN ?_|refine dC ?_|(refine dZ ?_;refine dI ?_)|refine vM ?_|refine vD ?_|refine mS ?_|(refine xa ?_ ?_<;>intro _))<;>conv=>whnf)|(with_reducible refine catT (b:=[32]) ?_ ?_; (simp only [List.length_append,List.length_singleton]; omega); rw [vm _ [32]];conv=>whnf)|(with_reducible refine catT ?_ ?_; (simp only [List.length_append,List.length_singleton]; omega); rw [vm];conv=>whnf)|((first|refine w64 (by first|omega|(dsimp only; omega)) (by first|omega|(dsimp only; omega)) ?_|refine ⟨_,xbl (tells.getD i 0) (by omega) (by omega),?_⟩|refine ixN (enc:=rI) (L:=tells) 0 hin ?_)<;>conv=>whnf)
         refine ⟨i+1,codeT 2++joinT (tells.take i)++[32]++Lib.itoa (tells.getD i 0),⟨by omega,by rw [wt hin]; simp⟩,by simp only; omega,?_⟩
         exact wl
       · repeat' first|((first|refine sN ?_|refine dC ?_|(refine dZ ?_;refine dI ?_)|refine vM ?_|refine vD ?_|refine mS ?_|(refine xa ?_ ?_<;>intro _))<;>conv=>whnf)
         have e:i=tells.length:=by simp only at g; omega
         subst e
         exact ⟨by rw [List.take_length],rfl⟩
   · refine xd (E:=E0) xb xc (fn:=Go.Proofs.Tryz.f272) (by kernel_rfl) (by kernel_rfl) (fun hb=>?_)
     conv=>whnf
     repeat' first|((first|refine sN ?_|refine dC ?_|(refine dZ ?_;refine dI ?_)|refine vM ?_|refine vD ?_|refine mS ?_|(refine xa ?_ ?_<;>intro _)|refine ⟨_,xl _ _ _,?_⟩|refine ⟨_,ya tells (ints tells).length _ (by omega),?_⟩|refine rwC rfl ?_)<;>conv=>whnf)|(refine ioN (by dsimp only; decide) (by dsimp only; decide) ?_;conv=>whnf)
     all_goals first
      | (exfalso; simp_all; done)
      | (exfalso; simp_all; omega)
      | skip
     refine Vc.loop2 (fun (i:Nat) (l:List UInt8)=>i≤tells.length∧l=codeT 3++joinT (tells.take i)) (fun i l=>updL [1,2,58] [(5,I i),(4,T l)] []) (fun i _=>tells.length - i) 0 (codeT 3) ⟨by omega,by simp [joinT]⟩ ?_ (fun i l hi=>?_)
     · exact wl
     · obtain ⟨hi,rfl⟩:=hi
       have hj:=jk (l:=tells.take i) fun x hx=>by have:=hb3 x (List.mem_of_mem_take hx); omega
       rw [List.length_take,Nat.min_eq_left hi] at hj
       have hw:=xdy 3
       conv=>whnf
       (repeat' first|((first|refine sN ?_|refine dC ?_|(refine dZ ?_;refine dI ?_)|refine vM ?_|refine vD ?_|refine mS ?_)<;>conv=>whnf))
       refine xg (fun g=>?_) (fun g=>?_)
       all_goals conv=>whnf
       · have hin:i<tells.length:=by simp only at g; omega
         have hm:=hb3 (tells.getD i 0) (by rw [List.getD_eq_getElem?_getD,List.getElem?_eq_getElem hin]; exact List.getElem_mem hin)
         have hil:=xak (n:=tells.getD i 0) (by omega)
         repeat' first|((first|refine sN ?_|refine dC ?_|(refine dZ ?_;refine dI ?_)|refine vM ?_|refine vD ?_|refine mS ?_|(refine xa ?_ ?_<;>intro _))<;>conv=>whnf)|(with_reducible refine catT (b:=[32]) ?_ ?_; (simp only [List.length_append,List.length_singleton]; omega); rw [vm _ [32]];conv=>whnf)|(with_reducible refine catT ?_ ?_; (simp only [List.length_append,List.length_singleton]; omega); rw [vm];conv=>whnf)|((first|refine w64 (by first|omega|(dsimp only; omega)) (by first|omega|(dsimp only; omega)) ?_|refine ⟨_,xbl (tells.getD i 0) (by omega) (by omega),?_⟩|refine ixN (enc:=rI) (L:=tells) 0 hin ?_)<;>conv=>whnf)
         refine ⟨i+1,codeT 3++joinT (tells.take i)++[32]++Lib.itoa (tells.getD i 0),⟨by omega,by rw [wt hin]; simp⟩,by simp only; omega,?_⟩
         exact wl
       · repeat' first|((first|refine sN ?_|refine dC ?_|(refine dZ ?_;refine dI ?_)|refine vM ?_|refine vD ?_|refine mS ?_|(refine xa ?_ ?_<;>intro _))<;>conv=>whnf)
         have e:i=tells.length:=by simp only at g; omega
         subst e
         exact ⟨by rw [List.take_length],rfl⟩
 · have e:resT r=[]:=by rw [resT,if_neg hr]
   rw [e]
   refine xd (E:=E0) xb xc (fn:=Go.Proofs.Tryz.f272) (by kernel_rfl) (by kernel_rfl) (fun hb=>?_)
   have lt:=xe r.Tells
   conv=>whnf
   repeat' first|((first|refine sN ?_|refine dC ?_|(refine dZ ?_;refine dI ?_)|refine vM ?_|refine vD ?_|refine mS ?_|(refine xa ?_ ?_<;>intro _)|refine ⟨_,xl _ _ _,?_⟩|refine ⟨_,ya r.Tells (ints r.Tells).length _ (by omega),?_⟩)<;>conv=>whnf)
   all_goals first
    | exact ⟨rfl,rfl⟩
    | (exfalso; refine hr (yj.2 ?_); simp_all [xf]; done)
    | (exfalso; refine hr (yj.2 ?_); simp_all [xf]; omega)
theorem jv (r:Rslt):Sem P 224 [(.pure,.agg (aR r))] [] (B (resOk r)):=by
 refine xd (E:=E0) xb xc (fn:=Go.Proofs.Tryz.f224) (by kernel_rfl) (by kernel_rfl) (fun hb=>?_)
 conv=>whnf
 repeat' first|((first|refine sN ?_|refine dC ?_|(refine dZ ?_;refine dI ?_)|refine vM ?_|refine vD ?_|refine mS ?_|(refine xa ?_ ?_<;>intro _)|refine ⟨_,xkk r,?_⟩)<;>conv=>whnf)
 exact rB (by rw [← xnt,← xns])
end Cc
end
section
namespace Cc
open Go Go.AM
set_option maxRecDepth 100000
set_option maxHeartbeats 4000000
theorem xkl (p:Plan) (hc:inB p.Clients 0 4=true) (l:List LogD):Sem P 204 [(.pure,.agg (aPl p)),(.pure,.one (sOs l))] [] (B (logB p l)):=by
 refine xd (E:=E0) xb xc (fn:=Go.Proofs.Tryz.f204) (by kernel_rfl) (by kernel_rfl) (fun hb=>?_)
 have la:(l.map eO).length=l.length:=List.length_map ..
 have hb1:(l.map eO).length≤1125899906842624:=(hb.2.1).1
 conv=>whnf
 repeat' first|((first|refine sN ?_|refine dC ?_|(refine dZ ?_;refine dI ?_)|refine vM ?_|refine vD ?_|refine mS ?_|(refine xa ?_ ?_<;>intro _))<;>conv=>whnf)
 · refine rB ?_; simp_all [logB]; intros; omega
 · rename_i h
   refine Vc.loop1 (fun (i:Nat)=>i≤l.length∧∀ j,j<i→(fun x=>callB p x.Call && resOk x.Res) (l.getD j default)=true) (fun i=>updL [1,2] [(5,I i)] []) (fun i=>l.length - i) 0 ⟨by omega,fun j hj=>absurd hj (Nat.not_lt_zero j)⟩ ?_ (fun i hi=>?_)
   · exact wl
   · obtain ⟨hi,ho⟩:=hi
     have hlm:(l.map eO).length=l.length:=List.length_map ..
     conv=>whnf
     (repeat' first|((first|refine sN ?_|refine dC ?_|(refine dZ ?_;refine dI ?_)|refine vM ?_|refine vD ?_|refine mS ?_)<;>conv=>whnf))
     refine xg (fun g=>?_) (fun g=>?_)
     all_goals conv=>whnf
     · repeat' first|((first|refine sN ?_|refine dC ?_|(refine dZ ?_;refine dI ?_)|refine vM ?_|refine vD ?_|refine mS ?_|(refine xa ?_ ?_<;>intro _)|refine ixN (enc:=eO) default (by omega) ?_|refine ⟨_,ze p (l.getD i default).Call hc,?_⟩|refine ⟨_,jv (l.getD i default).Res,?_⟩|refine w64 (by first|omega|(dsimp only; omega)) (by first|omega|(dsimp only; omega)) ?_)<;>conv=>whnf)
       all_goals first
        | (refine ⟨i+1,⟨by omega,fun j hj=>?_⟩,by simp only; omega,?_⟩
           · by_cases h':j<i
             · exact ho j h'
             · obtain rfl:j=i:=by omega
               clear ho
               simp_all
           · exact wl)
        | (have hp:(fun x=>callB p x.Call && resOk x.Res) (l.getD i default)=false:=by (clear ho; simp_all )
           have hn:l.all (fun x=>callB p x.Call && resOk x.Res)=false:=zw default (j:=i) (by omega) hp
           exact rB (by simp only [logB,hn,Bool.and_false]))
     · have hall:l.all (fun x=>callB p x.Call && resOk x.Res)=true:=zu default fun j hj=>ho j (by omega)
       repeat' first|((first|refine sN ?_|refine dC ?_|(refine dZ ?_;refine dI ?_)|refine vM ?_|refine vD ?_|refine mS ?_|(refine xa ?_ ?_<;>intro _)|refine ⟨_,ze p (l.getD i default).Call hc,?_⟩|refine ⟨_,jv (l.getD i default).Res,?_⟩|refine w64 (by first|omega|(dsimp only; omega)) (by first|omega|(dsimp only; omega)) ?_)<;>conv=>whnf)
       (have h6:l.length≤100:=by simp at h; omega); exact rB (by simp only [logB,hall,Bool.and_true,decide_eq_true h6])
end Cc
end
section
namespace Cc
open Go Go.AM
set_option maxRecDepth 100000
set_option maxHeartbeats 4000000
theorem xu {p:Plan} (h:planOk p=true):inB p.Clients 0 4=true:=by
 simp only [planOk,Bool.and_eq_true] at h
 have:=xf.1 h.1.1.1
 exact xf.2 (by omega)
theorem xcl {p:Plan} (h:planOk p=true):p.Start.length=3:=by
 simp only [planOk,Bool.and_eq_true] at h
 exact (xh.1 h.1.2).1
end Cc
end
section
namespace Cc
open Go Go.AM
set_option maxRecDepth 100000
set_option maxHeartbeats 4000000
abbrev fBy (bs:List UInt8):AV:=.fr [] 5 (bytesRows bs)
abbrev aRd (bs:List UInt8) (a:Int):List AV:=[fBy bs,eI a]
theorem ixB {L:List UInt8} {i:Int} {k:List AV→Prop} (h0:0≤i) (h:i<L.length) (hk:∀ c:Int,0≤c∧c≤255→k [.prim (.int .u8 c)]):0≤i∧∃ row,(bytesRows L)[i.toNat]?=some row∧k row:=by
 refine ⟨h0,[.prim (.int .u8 (L[i.toNat]'(by omega)).toNat)],?_,hk _ ⟨by omega,?_⟩⟩
 · rw [bytesRows,List.getElem?_map,List.getElem?_eq_getElem (by omega)]; rfl
 · have:=(L[i.toNat]'(by omega)).toNat_lt; omega
theorem xor64 {a b:Int} {k:Int→Prop} (ha:0≤a∧a<4611686018427387904) (hb:0≤b∧b<4611686018427387904) (hk:∀ c:Int,0≤c∧c<4611686018427387904→k c):∃ c,IntKind.i64.wrap (BitVec.ofInt IntKind.i64.bits a ^^^ BitVec.ofInt IntKind.i64.bits b).toNat=c∧k c:=by
 have hx:(BitVec.ofInt IntKind.i64.bits a ^^^ BitVec.ofInt IntKind.i64.bits b).toNat=a.toNat ^^^ b.toNat:=by
  show (BitVec.ofInt 64 a ^^^ BitVec.ofInt 64 b).toNat=_
  rw [BitVec.toNat_xor,BitVec.toNat_ofInt,BitVec.toNat_ofInt]
  congr 1<;>omega
 have hlt:a.toNat ^^^ b.toNat<2 ^ 62:=Nat.xor_lt_two_pow (by omega) (by omega)
 refine ⟨_,rfl,?_⟩
 rw [hx,wrap64 (by omega) (by omega)]
 exact hk _ ⟨by omega,by omega⟩
theorem xk (bs:List UInt8) (a k:Int) (ha:0≤a∧a≤1000000000000) (hk:1≤k∧k≤1000000000) (hbs:bs.length≤2000) :
 ∃ os res,(∃ n,(0≤n∧n<k)∧res=I n∧os=aRd bs (a+1))∧Sem P 73 [(.io 0 0,.agg (aRd bs a)),(.pure,I k)] [.agg os] res:=by
 have key:∃ res outs,(∃ n,(0≤n∧n<k)∧res=I n∧outs=[.agg (aRd bs (a+1))])∧Sem P 73 [(.io 0 0,.agg (aRd bs a)),(.pure,I k)] outs res:=by
  refine x6 (E:=E0) xb xc (fn:=Go.Proofs.Tryz.f73) (by kernel_rfl) (by kernel_rfl) ?_
  have lb:(bytesRows bs).length=bs.length:=List.length_map ..
  conv=>whnf
  repeat' first|((first|refine sN ?_|refine dC ?_|(refine dZ ?_;refine dI ?_)|refine vM ?_|refine vD ?_|refine mS ?_|(refine xa ?_ ?_<;>intro _)|refine w64 (by omega) (by omega) ?_)<;>conv=>whnf)
  · exact ⟨0,⟨by omega,by omega⟩,rfl,rfl⟩
  · exact ⟨0,⟨by omega,by omega⟩,rfl,rfl⟩
  · rename_i g1 g2 g3
    simp only [decide_eq_true_eq,decide_eq_false_iff_not,beq_eq_false_iff_ne] at g1 g2 g3
    refine ixB (by omega) (by omega) fun c hc=>?_
    conv=>whnf
    repeat' first|((first|refine sN ?_|refine dC ?_|(refine dZ ?_;refine dI ?_)|refine vM ?_|refine vD ?_|refine mS ?_|(refine xa ?_ ?_<;>intro _)|refine w64 (by omega) (by omega) ?_|refine r64 (by omega) (by omega) ?_)<;>conv=>whnf)
    have:=Int.emod_nonneg c (b:=k) (by omega)
    have:=Int.emod_lt_of_pos c (b:=k) (by omega)
    exact ⟨c % k,⟨by omega,by omega⟩,rfl,rfl⟩
  · rename_i g1 g2 g3
    simp only [decide_eq_true_eq,decide_eq_false_iff_not,beq_eq_false_iff_ne] at g1 g2 g3
    have hl:(0:Int)<(bytesRows bs).length:=by omega
    have e1:=Int.emod_nonneg (a+1 - 1) (b:=((bytesRows bs).length:Int)) (by omega)
    have e2:=Int.emod_lt_of_pos (a+1 - 1) (b:=((bytesRows bs).length:Int)) (by omega)
    refine r64 (by omega) (by omega) ?_
    generalize (a+1 - 1) % ((bytesRows bs).length:Int)=i at e1 e2
    conv=>whnf
    repeat' first|((first|refine sN ?_|refine dC ?_|(refine dZ ?_;refine dI ?_)|refine vM ?_|refine vD ?_|refine mS ?_|(refine xa ?_ ?_<;>intro _)|refine w64 (by omega) (by omega) ?_)<;>conv=>whnf)
    refine ixB (by omega) (by omega) fun c hc=>?_
    conv=>whnf
    repeat' first|((first|refine sN ?_|refine dC ?_|(refine dZ ?_;refine dI ?_)|refine vM ?_|refine vD ?_|refine mS ?_|(refine xa ?_ ?_<;>intro _)|refine w64 (by omega) (by omega) ?_)<;>conv=>whnf)
    have e3:=Int.emod_nonneg ((a+1 - 1)*7+3) (b:=((bytesRows bs).length:Int)) (by omega)
    have e4:=Int.emod_lt_of_pos ((a+1 - 1)*7+3) (b:=((bytesRows bs).length:Int)) (by omega)
    refine r64 (by omega) (by omega) ?_
    generalize ((a+1 - 1)*7+3) % ((bytesRows bs).length:Int)=i' at e3 e4
    conv=>whnf
    repeat' first|((first|refine sN ?_|refine dC ?_|(refine dZ ?_;refine dI ?_)|refine vM ?_|refine vD ?_|refine mS ?_|(refine xa ?_ ?_<;>intro _)|refine w64 (by omega) (by omega) ?_)<;>conv=>whnf)
    refine ixB (by omega) (by omega) fun c' hc'=>?_
    conv=>whnf
    repeat' first|((first|refine sN ?_|refine dC ?_|(refine dZ ?_;refine dI ?_)|refine vM ?_|refine vD ?_|refine mS ?_|(refine xa ?_ ?_<;>intro _)|refine w64 (by omega) (by omega) ?_)<;>conv=>whnf)
    have e5:=Int.ediv_nonneg (a:=a+1 - 1) (b:=((bytesRows bs).length:Int)) (by omega) (by omega)
    have e6:=Int.ediv_le_self (a:=a+1 - 1) ((bytesRows bs).length:Int) (by omega)
    refine q64 (by omega) (by omega) (by omega) ?_
    generalize (a+1 - 1) / ((bytesRows bs).length:Int)=q at e5 e6
    conv=>whnf
    repeat' first|((first|refine sN ?_|refine dC ?_|(refine dZ ?_;refine dI ?_)|refine vM ?_|refine vD ?_|refine mS ?_|(refine xa ?_ ?_<;>intro _)|refine w64 (by omega) (by omega) ?_)<;>conv=>whnf)
    have hs:0≤c*131+c'*1117+(a+1 - 1)*29+q*53∧c*131+c'*1117+(a+1 - 1)*29+q*53<4611686018427387904:=by omega
    generalize c*131+c'*1117+(a+1 - 1)*29+q*53=s at hs
    have e7:=Int.ediv_nonneg (a:=s) (b:=64) (by omega) (by omega)
    have e8:=Int.ediv_le_self (a:=s) 64 (by omega)
    refine q64 (by omega) (by omega) (by omega) ?_
    generalize s / 64=s' at e7 e8
    conv=>whnf
    repeat' first|((first|refine sN ?_|refine dC ?_|(refine dZ ?_;refine dI ?_)|refine vM ?_|refine vD ?_|refine mS ?_|(refine xa ?_ ?_<;>intro _))<;>conv=>whnf)
    refine xor64 hs (by omega) fun d hd=>?_
    conv=>whnf
    repeat' first|((first|refine sN ?_|refine dC ?_|(refine dZ ?_;refine dI ?_)|refine vM ?_|refine vD ?_|refine mS ?_|(refine xa ?_ ?_<;>intro _)|refine r64 (by omega) (by omega) ?_)<;>conv=>whnf)
    have:=Int.emod_nonneg d (b:=k) (by omega)
    have:=Int.emod_lt_of_pos d (b:=k) (by omega)
    exact ⟨d % k,⟨by omega,by omega⟩,rfl,rfl⟩
 obtain ⟨r,o,⟨n,h1,h2,rfl⟩,h3⟩:=key
 exact ⟨_,r,⟨n,h1,h2,rfl⟩,h3⟩
end Cc
end
section
namespace Cc
open Go Go.AM
set_option maxRecDepth 100000
set_option maxHeartbeats 4000000
theorem rwL (L:List Int) {n:Int} {rows:List (List AV)} {k:List AV→Prop} (hr:rows=ints L) (h0:0≤n) (h:n<L.length) (hk:∀ c∈L,k (rI c)):∃ row,rows[n.toNat]?=some row∧k row:=by
 subst hr
 refine ⟨rI (L[n.toNat]'(by omega)),by rw [List.getElem?_map,List.getElem?_eq_getElem (by omega)]; rfl,hk _ (List.getElem_mem _)⟩
def coef (l:List Int) (n:Nat):Prop:=l.length=n∧∀ x∈l,-2≤x∧x≤2
theorem coef.set {l:List Int} {n i:Nat} {c:Int} (h:coef l n) (hc : -2≤c∧c≤2):coef (l.set i c) n:=by
 refine ⟨by rw [List.length_set]; exact h.1,fun x hx=>?_⟩
 rcases List.mem_or_eq_of_mem_set hx with h'|rfl
 · exact h.2 x h'
 · exact hc
theorem xud {l m:List Int} {k:Int} (hl:coef l 3) (hm:coef m 2) (hk : -20≤k∧k≤20):(⟨l,m,k⟩:Form).small=true:=by
 simp only [Form.small,Bool.and_eq_true]
 exact ⟨⟨xh.2 hl,xh.2 hm⟩,xf.2 hk⟩
theorem xcm (bs:List UInt8) (a:Int) (ha:0≤a∧a≤100000000000) (hbs:bs.length≤2000) :
 ∃ os res,(∃ f a',(a≤a'∧a'≤a+6)∧f.small=true∧res=.agg (aF f)∧os=aRd bs a')∧Sem P 298 [(.io 0 0,.agg (aRd bs a))] [.agg os] res:=by
 have key:∃ res outs,(∃ f a',(a≤a'∧a'≤a+6)∧f.small=true∧res=.agg (aF f)∧outs=[.agg (aRd bs a')])∧Sem P 298 [(.io 0 0,.agg (aRd bs a))] outs res:=by
  refine x6 (E:={ E0 with keep:=[2000] }) xb xc (fn:=Go.Proofs.Tryz.f298) (by kernel_rfl) (by kernel_rfl) ?_
  conv=>whnf
  repeat' first|((first|refine sN ?_|refine dC ?_|(refine dZ ?_;refine dI ?_)|refine vM ?_|refine vD ?_|refine mS ?_|(refine xa ?_ ?_<;>intro _)|refine ⟨_,zr,?_⟩)<;>conv=>whnf)
  refine Vc.loop3 (fun (i:Nat) (l:List Int) (b:Int)=>i≤3∧coef l 3∧a≤b∧b≤a+i) (fun i l b=>updL [0,2,3,5,20,21,22,23,24,25,26,27,28,29,30,31,32,33,34,35,36,37,38,39] [(4,I i)] [(128000,.arr 3 (ints l) false),(63,.box (aRd bs b))]) (fun i _ _=>3 - i) 0 [0,0,0] a ⟨by omega,⟨rfl,by simp⟩,by omega,by omega⟩ ?_ (fun i l b hi=>?_)
  · exact wl
  · obtain ⟨hi,hl,h1,h2⟩:=hi
    have hl1:=hl.1
    conv=>whnf
    (repeat' first|((first|refine sN ?_|refine dC ?_|(refine dZ ?_;refine dI ?_)|refine vM ?_|refine vD ?_|refine mS ?_)<;>conv=>whnf))
    refine xg (fun g=>?_) (fun g=>?_)
    all_goals conv=>whnf
    · repeat' first|((first|refine sN ?_|refine dC ?_|(refine dZ ?_;refine dI ?_)|refine vM ?_|refine vD ?_|refine mS ?_|(refine xa ?_ ?_<;>intro _))<;>conv=>whnf)|(refine callIo (xk bs _ _ (by omega) (by omega) hbs) ?_; rintro _ _ ⟨n,hn,rfl,rfl⟩;conv=>whnf)
      refine ioN hn.1 (by simp; omega) ?_
      conv=>whnf
      repeat' first|((first|refine sN ?_|refine dC ?_|(refine dZ ?_;refine dI ?_)|refine vM ?_|refine vD ?_|refine mS ?_|(refine xa ?_ ?_<;>intro _))<;>conv=>whnf)
      refine rwL [0,0,0,1,-1,2] rfl hn.1 (by simp; omega) fun c hc=>?_
      have hc2 : -2≤c∧c≤2:=by simp at hc; omega
      conv=>whnf
      repeat' first|((first|refine sN ?_|refine dC ?_|(refine dZ ?_;refine dI ?_)|refine vM ?_|refine vD ?_|refine mS ?_|(refine xa ?_ ?_<;>intro _))<;>conv=>whnf)|(refine ioN (by omega) (by rw [xe]; omega) ?_;conv=>whnf)|((first|refine rwN (enc:=rI) 0 (by omega) ?_|refine w64 (by omega) (by omega) ?_)<;>conv=>whnf)
      refine ⟨i+1,l.set i c,b+1,⟨by omega,hl.set hc2,by omega,by omega⟩,by simp only; omega,?_⟩
      repeat' (first|exact True.intro|((conv=>whnf);first|exact True.intro|refine ⟨by rfl,?_⟩|refine ⟨by first|omega|(show (_:Int)=_;first|omega|(dsimp only;omega))|exact yr _ _ _,?_⟩|refine ⟨?_,?_⟩))
    · (repeat' first|((first|refine sN ?_|refine dC ?_|(refine dZ ?_;refine dI ?_)|refine vM ?_|refine vD ?_|refine mS ?_)<;>conv=>whnf))
      have e:i=3:=by omega
      subst e
      refine Vc.loop3 (fun (j:Nat) (m:List Int) (b':Int)=>j≤2∧coef m 2∧a≤b'∧b'≤a+3+j) (fun j m b'=>updL [0,2,3,33,34,35,36,37,38,39] [(5,I j)] [(128001,.arr 3 (ints m) false),(63,.box (aRd bs b'))]) (fun j _ _=>2 - j) 0 [0,0] b ⟨by omega,⟨rfl,by simp⟩,by omega,by omega⟩ ?_ (fun j m b' hj=>?_)
      · exact wl
      · obtain ⟨hj,hm,k1,k2⟩:=hj
        have hm1:=hm.1
        conv=>whnf
        (repeat' first|((first|refine sN ?_|refine dC ?_|(refine dZ ?_;refine dI ?_)|refine vM ?_|refine vD ?_|refine mS ?_)<;>conv=>whnf))
        refine xg (fun g=>?_) (fun g=>?_)
        all_goals conv=>whnf
        · repeat' first|((first|refine sN ?_|refine dC ?_|(refine dZ ?_;refine dI ?_)|refine vM ?_|refine vD ?_|refine mS ?_|(refine xa ?_ ?_<;>intro _))<;>conv=>whnf)|(refine callIo (xk bs _ _ (by omega) (by omega) hbs) ?_; rintro _ _ ⟨n,hn,rfl,rfl⟩;conv=>whnf)
          refine ioN hn.1 (by simp; omega) ?_
          conv=>whnf
          repeat' first|((first|refine sN ?_|refine dC ?_|(refine dZ ?_;refine dI ?_)|refine vM ?_|refine vD ?_|refine mS ?_|(refine xa ?_ ?_<;>intro _))<;>conv=>whnf)
          refine rwL [0,0,1,-1,2] rfl hn.1 (by simp; omega) fun c hc=>?_
          have hc2 : -2≤c∧c≤2:=by simp at hc; omega
          conv=>whnf
          repeat' first|((first|refine sN ?_|refine dC ?_|(refine dZ ?_;refine dI ?_)|refine vM ?_|refine vD ?_|refine mS ?_|(refine xa ?_ ?_<;>intro _))<;>conv=>whnf)|(refine ioN (by omega) (by rw [xe]; omega) ?_;conv=>whnf)|((first|refine rwN (enc:=rI) 0 (by omega) ?_|refine w64 (by omega) (by omega) ?_)<;>conv=>whnf)
          refine ⟨j+1,m.set j c,b'+1,⟨by omega,hm.set hc2,by omega,by omega⟩,by simp only; omega,?_⟩
          repeat' (first|exact True.intro|((conv=>whnf);first|exact True.intro|refine ⟨by rfl,?_⟩|refine ⟨by first|omega|(show (_:Int)=_;first|omega|(dsimp only;omega))|exact yr _ _ _,?_⟩|refine ⟨?_,?_⟩))
        · repeat' first|((first|refine sN ?_|refine dC ?_|(refine dZ ?_;refine dI ?_)|refine vM ?_|refine vD ?_|refine mS ?_|(refine xa ?_ ?_<;>intro _))<;>conv=>whnf)|(refine callIo (xk bs _ _ (by omega) (by omega) hbs) ?_; rintro _ _ ⟨n,hn,rfl,rfl⟩;conv=>whnf)
          refine ioN hn.1 (by simp; omega) ?_
          conv=>whnf
          repeat' first|((first|refine sN ?_|refine dC ?_|(refine dZ ?_;refine dI ?_)|refine vM ?_|refine vD ?_|refine mS ?_|(refine xa ?_ ?_<;>intro _))<;>conv=>whnf)
          refine rwL [0,0,1,-1,5,-5,20,-20] rfl hn.1 (by simp; omega) fun c hc=>?_
          have hc2 : -20≤c∧c≤20:=by simp at hc; omega
          conv=>whnf
          repeat' first|((first|refine sN ?_|refine dC ?_|(refine dZ ?_;refine dI ?_)|refine vM ?_|refine vD ?_|refine mS ?_|(refine xa ?_ ?_<;>intro _))<;>conv=>whnf)|(refine ioN (by omega) (by rw [xe]; omega) ?_;conv=>whnf)|((first|refine rwN (enc:=rI) 0 (by omega) ?_|refine w64 (by omega) (by omega) ?_)<;>conv=>whnf)
          exact ⟨⟨l,m,c⟩,b'+1,⟨by omega,by omega⟩,xud hl hm hc2,rfl,rfl⟩
 obtain ⟨r,o,⟨f,a',h1,h2,h3,rfl⟩,h4⟩:=key
 exact ⟨_,r,⟨f,a',h1,h2,h3,rfl⟩,h4⟩
end Cc
end
section
namespace Cc
open Go Go.AM
set_option maxRecDepth 100000
set_option maxHeartbeats 4000000
theorem xue (a b k:Int):Sem P 292 [(.pure,I a),(.pure,I b),(.pure,I k)] [] (.agg (aF ⟨[0,0,0],[a,b],k⟩)):=by
 refine xd (E:={ E0 with keep:=[2000] }) xb xc (fn:=Go.Proofs.Tryz.f292) (by kernel_rfl) (by kernel_rfl) (fun hb=>?_)
 conv=>whnf
 repeat' first|((first|refine sN ?_|refine dC ?_|(refine dZ ?_;refine dI ?_)|refine vM ?_|refine vD ?_|refine mS ?_|(refine xa ?_ ?_<;>intro _)|refine ⟨_,zr,?_⟩|refine ioK (Nat.le_of_ble_eq_true rfl) ?_|refine rwC rfl ?_)<;>conv=>whnf)
 all_goals first
  | exact ⟨rfl,rfl⟩
  | trace_state
theorem xdz (f:Form) (v:Nat) (n:Int) (hv:v<f.C.length):Sem P 291 [(.own,.agg (aF f)),(.pure,I v),(.pure,I n)] [] (.agg (aF { f with C:=f.C.set v n })):=by
 refine xd (E:=E0) xb xc (fn:=Go.Proofs.Tryz.f291) (by kernel_rfl) (by kernel_rfl) (fun hb=>?_)
 have la:=xe f.C
 conv=>whnf
 repeat' first|((first|refine sN ?_|refine dC ?_|(refine dZ ?_;refine dI ?_)|refine vM ?_|refine vD ?_|refine mS ?_|(refine xa ?_ ?_<;>intro _)|refine ioN (by omega) (by omega) ?_|refine rwN (enc:=rI) 0 (by omega) ?_)<;>conv=>whnf)
 exact ⟨congrArg (fun x=>TV.agg [.sl 3 x,sI f.D,eI f.K]) (yr _ _ _),rfl⟩
theorem xv1 {f:Form} {n:Int} (hf:f.small=true) (hn:1≤n∧n≤6):(⟨1,0,n,f⟩:Line).ok=true:=by
 simp [Line.ok,hf,xf,hn]
theorem xr0 {f:Form} {n:Int} (hf:f.small=true) (hn:0≤n∧n≤2):(⟨2,n,0,f⟩:Line).ok=true:=by
 simp [Line.ok,hf,xf,hn]
theorem xuf {f:Form} (hf:f.small=true):(⟨3,0,0,f⟩:Line).ok=true:=by
 simp [Line.ok,hf]
theorem xpi {f:Form} (hf:f.small=true):({ f with C:=[0,0,0] }:Form).small=true:=by
 simp only [Form.small,Bool.and_eq_true] at hf ⊢
 exact ⟨⟨by decide,hf.1.2⟩,hf.2⟩
theorem xr1 (bs:List UInt8) (a:Int) (ha:0≤a∧a≤10000000000) (hbs:bs.length≤2000) :
 ∃ os res,(∃ l a',(a≤a'∧a'≤a+10)∧l.ok=true∧res=.agg (aL l)∧os=aRd bs a')∧Sem P 293 [(.io 0 0,.agg (aRd bs a))] [.agg os] res:=by
 have key:∃ res outs,(∃ l a',(a≤a'∧a'≤a+10)∧l.ok=true∧res=.agg (aL l)∧outs=[.agg (aRd bs a')])∧Sem P 293 [(.io 0 0,.agg (aRd bs a))] outs res:=by
  refine x6 (E:={ E0 with keep:=[5004,9001,14001] }) xb xc (fn:=Go.Proofs.Tryz.f293) (by kernel_rfl) (by kernel_rfl) ?_
  conv=>whnf
  repeat' first|((first|refine sN ?_|refine dC ?_|(refine dZ ?_;refine dI ?_)|refine vM ?_|refine vD ?_|refine mS ?_|(refine xa ?_ ?_<;>intro _))<;>conv=>whnf)|(refine callIo (xk bs _ _ (by omega) (by omega) hbs) ?_; rintro _ _ ⟨n,hn,rfl,rfl⟩;conv=>whnf)|(refine callIo (xcm bs _ (by omega) hbs) ?_; rintro _ _ ⟨f,b,hb,hf,rfl,rfl⟩;conv=>whnf)|(refine w64 (by first|omega|(dsimp only; omega)) (by first|omega|(dsimp only; omega)) ?_;conv=>whnf)
  all_goals first
   | (refine ⟨⟨1,0,1+n,f⟩,_,⟨?_,?_⟩,?_,rfl,rfl⟩
      · omega
      · omega
      · exact xv1 hf (by omega))
   | (refine ⟨⟨2,n,0,f⟩,_,⟨?_,?_⟩,?_,rfl,rfl⟩
      · omega
      · omega
      · exact xr0 hf (by omega))
   | (refine ⟨⟨2,n,0,{ f with C:=[0,0,0] }⟩,_,⟨?_,?_⟩,?_,rfl,rfl⟩
      · omega
      · omega
      · exact xr0 (xpi hf) (by omega))
   | (refine ⟨⟨3,0,0,f⟩,_,⟨?_,?_⟩,?_,rfl,rfl⟩
      · omega
      · omega
      · exact xuf hf)
   | (refine ⟨⟨4,0,0,Form.nil⟩,_,⟨?_,?_⟩,?_,rfl,rfl⟩
      · omega
      · omega
      · rfl)
 obtain ⟨r,o,⟨f,a',h1,h2,h3,rfl⟩,h4⟩:=key
 exact ⟨_,r,⟨f,a',h1,h2,h3,rfl⟩,h4⟩
end Cc
end
section
namespace Cc
open Go Go.AM
set_option maxRecDepth 100000
set_option maxHeartbeats 4000000
theorem xa5 (bs:List UInt8) (a k:Int) (ha:0≤a∧a≤10000000000) (hk:1≤k∧k≤1000000) (hbs:bs.length≤2000) :
 ∃ os res,(∃ (l:List Int) (a':Int),(a≤a'∧a'≤a+6)∧l.length≤3∧res=AI l∧os=aRd bs a')∧Sem P 216 [(.io 0 0,.agg (aRd bs a)),(.pure,I k)] [.agg os] res:=by
 have key:∃ res outs,(∃ (l:List Int) (a':Int),(a≤a'∧a'≤a+6)∧l.length≤3∧res=AI l∧outs=[.agg (aRd bs a')])∧Sem P 216 [(.io 0 0,.agg (aRd bs a)),(.pure,I k)] outs res:=by
  refine x6 (E:={ E0 with cut:=[7001] }) xb xc (fn:=Go.Proofs.Tryz.f216) (by kernel_rfl) (by kernel_rfl) ?_
  conv=>whnf
  repeat' first|((first|refine sN ?_|refine dC ?_|(refine dZ ?_;refine dI ?_)|refine vM ?_|refine vD ?_|refine mS ?_|(refine xa ?_ ?_<;>intro _))<;>conv=>whnf)|(refine callIo (xk bs _ _ (by omega) (by omega) hbs) ?_; rintro _ _ ⟨n,hn,rfl,rfl⟩;conv=>whnf)|((first|refine w64 (by first|omega|(dsimp only; omega)) (by first|omega|(dsimp only; omega)) ?_|refine apN (by simp) ?_)<;>conv=>whnf)
  · refine ⟨by decide,by decide,by simp,?_⟩
    conv=>whnf
    refine ⟨rfl,?_⟩
    conv=>whnf
    repeat' first|((first|refine sN ?_|refine dC ?_|(refine dZ ?_;refine dI ?_)|refine vM ?_|refine vD ?_|refine mS ?_|(refine xa ?_ ?_<;>intro _))<;>conv=>whnf)
    refine ⟨[_],_,⟨?_,?_⟩,?_,rfl,rfl⟩
    all_goals first|omega|simp
  · refine ⟨[_,_,_],_,⟨?_,?_⟩,?_,rfl,rfl⟩
    all_goals first|omega|simp
  · refine ioN hn.1 (by simp; omega) ?_
    conv=>whnf
    repeat' first|((first|refine sN ?_|refine dC ?_|(refine dZ ?_;refine dI ?_)|refine vM ?_|refine vD ?_|refine mS ?_|(refine xa ?_ ?_<;>intro _))<;>conv=>whnf)
    refine rwL [10,-10] rfl hn.1 (by simp; omega) fun c hc=>?_
    conv=>whnf
    repeat' first|((first|refine sN ?_|refine dC ?_|(refine dZ ?_;refine dI ?_)|refine vM ?_|refine vD ?_|refine mS ?_|(refine xa ?_ ?_<;>intro _))<;>conv=>whnf)|(refine ioN (by omega) (by simp; omega) ?_;conv=>whnf)|(refine rwN (L:=[_,_]) (enc:=rI) 0 (by simp; omega) ?_;conv=>whnf)
    refine ⟨[_,_].set _ c,_,⟨?_,?_⟩,?_,congrArg (fun x=>TV.one (.sl 3 x)) (yr [_,_] _ c),rfl⟩
    all_goals first|omega|simp
  · refine ⟨[_,_],_,⟨?_,?_⟩,?_,rfl,rfl⟩
    all_goals first|omega|simp
 obtain ⟨r,o,⟨f,a',h1,h2,h3,rfl⟩,h4⟩:=key
 exact ⟨_,r,⟨f,a',h1,h2,h3,rfl⟩,h4⟩
end Cc
end
section
namespace Cc
open Go Go.AM
set_option maxRecDepth 100000
set_option maxHeartbeats 4000000
end Cc
end
section
namespace Cc
open Go Go.AM
set_option maxRecDepth 100000
set_option maxHeartbeats 4000000
def unI:List (List AV)→List Int
 | [.prim (.int .i64 n)]::r=>n::unI r
 | _=>[]
theorem rwI {rows:List (List AV)} {n:Int} {k:List AV→Prop} (hr:ints (unI rows)=rows) (h0:0≤n) (h:n<rows.length) (hk:∀ c∈unI rows,k (rI c)):∃ row,rows[n.toNat]?=some row∧k row:=by
 rw [← hr] at h ⊢
 rw [xe] at h
 exact ⟨rI ((unI rows)[n.toNat]'(by omega)),by rw [List.getElem?_map,List.getElem?_eq_getElem (by omega)]; rfl,hk _ (List.getElem_mem _)⟩
theorem slN {l h n:Int} {k:Prop} (h0:0≤l) (h1:l≤h) (h2:h≤n) (hk:k):0≤l∧l≤h∧h≤n∧k:=⟨h0,h1,h2,hk⟩
theorem ctN {k:Prop} (hk:k):(0:Int)=0∧k:=⟨rfl,hk⟩
theorem xr2 {f:Form} (h:f.small=true):f.C.length=3∧f.D.length=2:=(yx h).1.1
theorem xib (l:List Int) (n:Nat):(ints l).take n=ints (l.take n):=List.map_take.symm
theorem rwE {rows:List (List AV)} {l:List Int} {i:Nat} {k:List AV→Prop} (hr:rows=ints l) (h:i<l.length) (hk:k (rI (l.getD i 0))):∃ row,rows[i]?=some row∧k row:=by
 subst hr; exact rwN (enc:=rI) 0 h hk
theorem drForm {a m:Int} {bs:List UInt8} {res:TV} {os:List TV} {C D:List Int} {K a':Int} (e:res=.agg [sI C,sI D,eI K]) (e2:os=[.agg (aRd bs a')]) (hb:a≤a'∧a'≤a+m):∃ (f:Form) (a':Int),(a≤a'∧a'≤a+m)∧res=.agg (aF f)∧os=[.agg (aRd bs a')] :=
 ⟨⟨C,D,K⟩,a',hb,e,e2⟩
theorem xr3 (bs:List UInt8) (a k:Int) (ha:0≤a∧a≤10000000000) (hk:1≤k∧k≤1000000) (hbs:bs.length≤2000) :
 ∃ os res,(∃ (f:Form) (a':Int),(a≤a'∧a'≤a+20)∧res=.agg (aF f)∧os=aRd bs a')∧Sem P 297 [(.io 0 0,.agg (aRd bs a)),(.pure,I k)] [.agg os] res:=by
 have key:∃ res outs,(∃ (f:Form) (a':Int),(a≤a'∧a'≤a+20)∧res=.agg (aF f)∧outs=[.agg (aRd bs a')])∧Sem P 297 [(.io 0 0,.agg (aRd bs a)),(.pure,I k)] outs res:=by
  refine x6 (E:={ E0 with keep:=[2001],cut:=[10002] }) xb xc (fn:=Go.Proofs.Tryz.f297) (by kernel_rfl) (by kernel_rfl) ?_
  conv=>whnf
  repeat' first|((first|refine sN ?_|refine dC ?_|(refine dZ ?_;refine dI ?_)|refine vM ?_|refine vD ?_|refine mS ?_|(refine xa ?_ ?_<;>intro _))<;>conv=>whnf)|(refine callIo (xk bs _ _ (by omega) (by omega) hbs) ?_; rintro _ _ ⟨n,hn,rfl,rfl⟩;conv=>whnf)|(refine ioN (by first|omega|(dsimp only; omega)|(simp<;>omega)|(simp_all<;>omega)) (by first|omega|(dsimp only; omega)|(simp<;>omega)|(simp_all<;>omega)) ?_;conv=>whnf)|(refine rwI rfl (by first|omega|(dsimp only; omega)|(simp<;>omega)|(simp_all<;>omega)) (by first|omega|(dsimp only; omega)|(simp<;>omega)|(simp_all<;>omega)) fun c hc=>?_;conv=>whnf)|(refine rwN (enc:=rI) 0 (by first|omega|(dsimp only; omega)|(simp<;>omega)|(simp_all<;>omega)) ?_;conv=>whnf)|(refine w64 (by first|omega|(dsimp only; omega)) (by first|omega|(dsimp only; omega)) ?_;conv=>whnf)|(refine apN (by simp; omega) ?_;conv=>whnf)|(refine callIo (xcm bs _ (by omega) hbs) ?_; rintro _ _ ⟨f,b,hb,hf,rfl,rfl⟩; have hl:=xr2 hf; have hl1:=hl.1; have hl2:=hl.2;conv=>whnf)|(refine rwE (yr _ _ _) (by first|omega|(dsimp only; omega)|(simp<;>omega)|(simp_all<;>omega)) ?_;conv=>whnf)|(refine slN (by decide) (by decide) (by first|omega|(dsimp only; omega)|(simp<;>omega)|(simp_all<;>omega)) ?_;conv=>whnf)|((first|refine ctN ?_)<;>conv=>whnf)
  all_goals
   apply drForm
   · (try simp only [yr,qa,xib]); rfl
   · rfl
   · constructor<;>omega
 obtain ⟨r,o,⟨f,a',h1,h2,rfl⟩,h4⟩:=key
 exact ⟨_,r,⟨f,a',h1,h2,rfl⟩,h4⟩
end Cc
end
section
namespace Cc
open Go Go.AM
set_option maxRecDepth 100000
set_option maxHeartbeats 4000000
theorem apS {r:List (List AV)} {k:Prop} (h:allSh r) (hk:k):allSh r∧k:=⟨h,hk⟩
theorem xug (l:List Line):allSh (l.map eL):=by
 intro row hr a ha
 obtain ⟨x,_,rfl⟩:=List.mem_map.1 hr
 simp only [eL,List.mem_cons,List.not_mem_nil,or_false] at ha
 rcases ha with rfl|rfl|rfl|rfl|rfl|rfl<;>first|exact .inl ⟨_,rfl⟩|exact .inr ⟨_,_,rfl⟩
theorem xic (l:List Line) (x:Line):l.map eL++[eL x]=(l++[x]).map eL:=by simp
theorem xmn (out:List Line) (l:Line):Sem P 219 [(.pure,.one (.sl 122 ([]++out.map eL++[eL l])))] [] (B (actOk (out++[l]))):=by
 have e:[]++out.map eL++[eL l]=(out++[l]).map eL:=by simp
 rw [e]; exact qp _
theorem xkm (bs:List UInt8) (a:Int) (ha:0≤a∧a≤9000000000) (hbs:bs.length≤2000) :
 ∃ os res,(∃ (act:List Line) (a':Int),(a≤a'∧a'≤a+60)∧actOk act=true∧res=.one (sLs act)∧os=aRd bs a')∧Sem P 253 [(.io 0 0,.agg (aRd bs a))] [.agg os] res:=by
 have key:∃ res outs,(∃ (act:List Line) (a':Int),(a≤a'∧a'≤a+60)∧actOk act=true∧res=.one (sLs act)∧outs=[.agg (aRd bs a')])∧Sem P 253 [(.io 0 0,.agg (aRd bs a))] outs res:=by
  refine x6 (E:={ E0 with keep:=[6000,10000,12000,14000,14001,20002] }) xb xc (fn:=Go.Proofs.Tryz.f253) (by kernel_rfl) (by kernel_rfl) ?_
  conv=>whnf
  repeat' first|((first|refine sN ?_|refine dC ?_|(refine dZ ?_;refine dI ?_)|refine vM ?_|refine vD ?_|refine mS ?_|(refine xa ?_ ?_<;>intro _))<;>conv=>whnf)
  refine callIo (xk bs _ _ (by omega) (by omega) hbs) ?_
  rintro _ _ ⟨v,hv,rfl,rfl⟩
  have hv2:v=0∨v=1:=by omega
  rcases hv2 with rfl|rfl
  all_goals conv=>whnf
  all_goals repeat' first|((first|refine sN ?_|refine dC ?_|(refine dZ ?_;refine dI ?_)|refine vM ?_|refine vD ?_|refine mS ?_|(refine xa ?_ ?_<;>intro _))<;>conv=>whnf)|(refine callIo (xk bs _ _ (by omega) (by omega) hbs) ?_; rintro _ _ ⟨n,hn,rfl,rfl⟩;conv=>whnf)|((first|refine ⟨_,xue _ _ _,?_⟩|refine ⟨_,xdz _ 0 _ (by decide),?_⟩|refine ⟨_,xdz _ 1 _ (by decide),?_⟩|refine ⟨_,xdz _ 2 _ (by decide),?_⟩|refine w64 (by first|omega|(dsimp only; omega)) (by first|omega|(dsimp only; omega)) ?_)<;>conv=>whnf)
  all_goals first
   | exact ⟨[⟨_,_,_,⟨_,_,_⟩⟩],_,⟨by omega,by omega⟩,by decide,rfl,rfl⟩
   | exact ⟨[⟨_,_,_,⟨_,_,_⟩⟩,⟨_,_,_,⟨_,_,_⟩⟩],_,⟨by omega,by omega⟩,by decide,rfl,rfl⟩
   | exact ⟨[⟨_,_,_,⟨_,_,_⟩⟩,⟨_,_,_,⟨_,_,_⟩⟩,⟨_,_,_,⟨_,_,_⟩⟩],_,⟨by omega,by omega⟩,by decide,rfl,rfl⟩
   | exact ⟨[⟨_,_,_,⟨_,_,_⟩⟩,⟨_,_,_,⟨_,_,_⟩⟩,⟨_,_,_,⟨_,_,_⟩⟩,⟨_,_,_,⟨_,_,_⟩⟩,⟨_,_,_,Form.nil⟩],_,⟨by omega,by omega⟩,by decide,rfl,rfl⟩
   | skip
  all_goals
   refine Vc.loop3 (fun (i:Int) (out:List Line) (b:Int)=>0≤i∧i≤5∧(out.length:Int)≤5 - i∧actOk out=true∧a≤b∧b≤a+3+(5 - i)*10) (fun i out b=>updL [0,2,83] [(5,I i),(4,.one (.ref 960000))] [(960000,.arr 122 (out.map eL) false),(63,.box (aRd bs b))]) (fun i _ _=>i.toNat) (1+n) [] (a+1+1+1) ⟨by omega,by omega,by simp; omega,rfl,by omega,by omega⟩ ?_ (fun i out b hi=>?_)
   · exact wk
   · obtain ⟨i0,i5,ho,hok,b1,b2⟩:=hi
     have lo:(out.map eL).length=out.length:=List.length_map ..
     conv=>whnf
     (repeat' first|((first|refine sN ?_|refine dC ?_|(refine dZ ?_;refine dI ?_)|refine vM ?_|refine vD ?_|refine mS ?_)<;>conv=>whnf))
     refine xg (fun g=>?_) (fun g=>?_)
     all_goals conv=>whnf
     · repeat' first|((first|refine sN ?_|refine dC ?_|(refine dZ ?_;refine dI ?_)|refine vM ?_|refine vD ?_|refine mS ?_|(refine xa ?_ ?_<;>intro _))<;>conv=>whnf)|(refine callIo (xr1 bs _ (by omega) hbs) ?_; rintro _ _ ⟨l,b',hb',hl,rfl,rfl⟩;conv=>whnf)|(refine apN (by simp; omega) ?_;conv=>whnf)|((first|refine apS (xug _) ?_|refine ⟨_,xmn _ _,?_⟩|refine w64 (by first|omega|(dsimp only; omega)) (by first|omega|(dsimp only; omega)) ?_)<;>conv=>whnf)
       · rename_i h
         refine ⟨i - 1,out++[l],b',⟨by omega,by omega,by simp; omega,h,by omega,by omega⟩,by simp only; omega,?_⟩
         repeat' (first|exact True.intro|((conv=>whnf);first|exact True.intro|refine ⟨by rfl,?_⟩|refine ⟨by first|omega|(show (_:Int)=_;first|omega|(dsimp only;omega))|exact xic _ _,?_⟩|refine ⟨?_,?_⟩))
       · refine ⟨i - 1,out,b',⟨by omega,by omega,by omega,hok,by omega,by omega⟩,by simp only; omega,?_⟩
         exact wk
     · repeat' first|((first|refine sN ?_|refine dC ?_|(refine dZ ?_;refine dI ?_)|refine vM ?_|refine vD ?_|refine mS ?_|(refine xa ?_ ?_<;>intro _))<;>conv=>whnf)
       exact ⟨out,b,⟨by omega,by omega⟩,hok,rfl,rfl⟩
 obtain ⟨r,o,⟨f,a',h1,h2,h3,rfl⟩,h4⟩:=key
 exact ⟨_,r,⟨f,a',h1,h2,h3,rfl⟩,h4⟩
end Cc
end
section
namespace Cc
open Go Go.AM
set_option maxRecDepth 100000
set_option maxHeartbeats 4000000
theorem xr4 {act:List Line} (h:actOk act=true):act.length≤6:=(y6.1 h).2.1
theorem xkn (l:List (List Line)) (x:List Line):l.map eA++[eA x]=(l++[x]).map eA:=by simp
theorem xa6 {l:List (List Line)}:catOk l=true↔(1≤l.length∧l.length≤4)∧∀ x∈l,actOk x=true:=by
 simp [catOk,xf]; omega
theorem xid (bs:List UInt8) (a:Int) (ha:0≤a∧a≤8000000000) (hbs:bs.length≤2000) :
 ∃ os res,(∃ (acts:List (List Line)) (a':Int),(a≤a'∧a'≤a+250)∧catOk acts=true∧res=.one (sAs acts)∧os=aRd bs a')∧Sem P 183 [(.io 0 0,.agg (aRd bs a))] [.agg os] res:=by
 have key:∃ res outs,(∃ (acts:List (List Line)) (a':Int),(a≤a'∧a'≤a+250)∧catOk acts=true∧res=.one (sAs acts)∧outs=[.agg (aRd bs a')])∧Sem P 183 [(.io 0 0,.agg (aRd bs a))] outs res:=by
  refine x6 (E:=E0) xb xc (fn:=Go.Proofs.Tryz.f183) (by kernel_rfl) (by kernel_rfl) ?_
  conv=>whnf
  repeat' first|((first|refine sN ?_|refine dC ?_|(refine dZ ?_;refine dI ?_)|refine vM ?_|refine vD ?_|refine mS ?_|(refine xa ?_ ?_<;>intro _))<;>conv=>whnf)|(refine callIo (xk bs _ _ (by omega) (by omega) hbs) ?_; rintro _ _ ⟨n,hn,rfl,rfl⟩;conv=>whnf)|(refine ioN (by first|omega|(dsimp only; omega)|(simp<;>omega)|(simp_all<;>omega)) (by first|omega|(dsimp only; omega)|(simp<;>omega)|(simp_all<;>omega)) ?_;conv=>whnf)|(refine rwI rfl (by first|omega|(dsimp only; omega)|(simp<;>omega)|(simp_all<;>omega)) (by first|omega|(dsimp only; omega)|(simp<;>omega)|(simp_all<;>omega)) fun c hc=>?_;conv=>whnf)|(refine rwN (enc:=rI) 0 (by first|omega|(dsimp only; omega)|(simp<;>omega)|(simp_all<;>omega)) ?_;conv=>whnf)|(refine w64 (by first|omega|(dsimp only; omega)) (by first|omega|(dsimp only; omega)) ?_;conv=>whnf)|(refine apN (by simp; omega) ?_;conv=>whnf)
  refine Vc.loop3 (fun (i:Int) (out:List (List Line)) (b:Int)=>0≤i∧(out.length:Int)=1+n - i∧(∀ x∈out,actOk x=true)∧a≤b∧b≤a+1+(1+n - i)*60) (fun i out b=>updL [0,2,18] [(4,I i),(3,.one (.ref 128000))] [(128000,.arr 48 (out.map eA) false),(63,.box (aRd bs b))]) (fun i _ _=>i.toNat) (1+n) [] (a+1) ⟨by omega,by simp,by simp,by omega,by omega⟩ ?_ (fun i out b hi=>?_)
  · exact wk
  · obtain ⟨i0,ho,hok,b1,b2⟩:=hi
    have lo:(out.map eA).length=out.length:=List.length_map ..
    conv=>whnf
    (repeat' first|((first|refine sN ?_|refine dC ?_|(refine dZ ?_;refine dI ?_)|refine vM ?_|refine vD ?_|refine mS ?_)<;>conv=>whnf))
    refine xg (fun g=>?_) (fun g=>?_)
    all_goals conv=>whnf
    · repeat' first|((first|refine sN ?_|refine dC ?_|(refine dZ ?_;refine dI ?_)|refine vM ?_|refine vD ?_|refine mS ?_|(refine xa ?_ ?_<;>intro _))<;>conv=>whnf)|(refine callIo (xkm bs _ (by omega) hbs) ?_; rintro _ _ ⟨l,b',hb',hl,rfl,rfl⟩;conv=>whnf)|(refine apN (by simp; omega) ?_;conv=>whnf)|(refine w64 (by first|omega|(dsimp only; omega)) (by first|omega|(dsimp only; omega)) ?_;conv=>whnf)
      refine ⟨i - 1,out++[l],b',⟨by omega,by simp; omega,fun x hx=>?_,by omega,by omega⟩,by simp only; omega,?_⟩
      · rcases List.mem_append.1 hx with h|h
        · exact hok x h
        · rw [List.mem_singleton.1 h]; exact hl
      · repeat' (first|exact True.intro|((conv=>whnf);first|exact True.intro|refine ⟨by rfl,?_⟩|refine ⟨by first|omega|(show (_:Int)=_;first|omega|(dsimp only;omega))|exact xkn _ _,?_⟩|refine ⟨?_,?_⟩))
    · repeat' first|((first|refine sN ?_|refine dC ?_|(refine dZ ?_;refine dI ?_)|refine vM ?_|refine vD ?_|refine mS ?_|(refine xa ?_ ?_<;>intro _))<;>conv=>whnf)
      exact ⟨out,b,⟨by omega,by omega⟩,xa6.2 ⟨⟨by omega,by omega⟩,hok⟩,rfl,rfl⟩
 obtain ⟨r,o,⟨f,a',h1,h2,h3,rfl⟩,h4⟩:=key
 exact ⟨_,r,⟨f,a',h1,h2,h3,rfl⟩,h4⟩
theorem xr5 (l:List Line) (i:Nat) (x:Line):(l.map eL).set i (eL x)=(l.set i x).map eL:=List.map_set.symm
theorem xuh (l:List Line) (i:Nat) (k p s:Int) (f:Form):(l.map eL).set i [eI k,eI p,eI s,fI f.C,fI f.D,eI f.K]=(l.set i ⟨k,p,s,f⟩).map eL:=xr5 l i ⟨k,p,s,f⟩
theorem xr6 (l:List Line) (k p s:Int) (f:Form) (k' p' s':Int) (f':Form):l.map eL++[[eI k,eI p,eI s,fI f.C,fI f.D,eI f.K],[eI k',eI p',eI s',fI f'.C,fI f'.D,eI f'.K]]=(l++[(⟨k,p,s,f⟩:Line),⟨k',p',s',f'⟩]).map eL:=by simp
theorem xmo (bs:List UInt8) (a k:Int) (ha:0≤a∧a≤8000000000) (hk:1≤k∧k≤1000000) (hbs:bs.length≤2000) :
 ∃ os res,(∃ (act:List Line) (a':Int),(a≤a'∧a'≤a+120)∧act.length≤10∧res=.one (sLs act)∧os=aRd bs a')∧Sem P 265 [(.io 0 0,.agg (aRd bs a)),(.pure,I k)] [.agg os] res:=by
 have key:∃ res outs,(∃ (act:List Line) (a':Int),(a≤a'∧a'≤a+120)∧act.length≤10∧res=.one (sLs act)∧outs=[.agg (aRd bs a')])∧Sem P 265 [(.io 0 0,.agg (aRd bs a)),(.pure,I k)] outs res:=by
  refine x6 (E:={ E0 with keep:=[2001] }) xb xc (fn:=Go.Proofs.Tryz.f265) (by kernel_rfl) (by kernel_rfl) ?_
  conv=>whnf
  repeat' first|((first|refine sN ?_|refine dC ?_|(refine dZ ?_;refine dI ?_)|refine vM ?_|refine vD ?_|refine mS ?_|(refine xa ?_ ?_<;>intro _))<;>conv=>whnf)|(refine callIo (xkm bs _ (by omega) hbs) ?_; rintro _ _ ⟨l,b',hb',hl,rfl,rfl⟩; have hll:=xr4 hl; have lo:(l.map eL).length=l.length:=List.length_map ..;conv=>whnf)|(refine callIo (xk bs _ _ (by omega) (by omega) hbs) ?_; rintro _ _ ⟨n,hn,rfl,rfl⟩;conv=>whnf)|(refine ioN (by first|omega|(dsimp only; omega)|(simp<;>omega)|(simp_all<;>omega)) (by first|omega|(dsimp only; omega)|(simp<;>omega)|(simp_all<;>omega)) ?_;conv=>whnf)|(refine rwI rfl (by first|omega|(dsimp only; omega)|(simp<;>omega)|(simp_all<;>omega)) (by first|omega|(dsimp only; omega)|(simp<;>omega)|(simp_all<;>omega)) fun c hc=>?_;conv=>whnf)|(refine rwN (enc:=rI) 0 (by first|omega|(dsimp only; omega)|(simp<;>omega)|(simp_all<;>omega)) ?_;conv=>whnf)|(refine w64 (by first|omega|(dsimp only; omega)) (by first|omega|(dsimp only; omega)) ?_;conv=>whnf)|(refine apN (by simp; omega) ?_;conv=>whnf)
  · exact ⟨l,b',⟨by omega,by omega⟩,by omega,rfl,rfl⟩
  · exact ⟨l,b'+1,⟨by omega,by omega⟩,by omega,rfl,rfl⟩
  · rename_i h0 _
    have h0:1≤l.length:=by rw [beq_eq_false_iff_ne] at h0; omega
    repeat' first|((first|refine sN ?_|refine dC ?_|(refine dZ ?_;refine dI ?_)|refine vM ?_|refine vD ?_|refine mS ?_|(refine xa ?_ ?_<;>intro _))<;>conv=>whnf)|(refine callIo (xk bs _ ((l.map eL).length:Int) (by omega) (by omega) hbs) ?_; rintro _ _ ⟨n,hn,rfl,rfl⟩;conv=>whnf)
    repeat' first|((first|refine sN ?_|refine dC ?_|(refine dZ ?_;refine dI ?_)|refine vM ?_|refine vD ?_|refine mS ?_|(refine xa ?_ ?_<;>intro _))<;>conv=>whnf)|(refine callIo (xk bs _ _ (by omega) (by omega) hbs) ?_; rintro _ _ ⟨n,hn,rfl,rfl⟩;conv=>whnf)|(refine ioN (by first|omega|(dsimp only; omega)|(simp<;>omega)|(simp_all<;>omega)) (by first|omega|(dsimp only; omega)|(simp<;>omega)|(simp_all<;>omega)) ?_;conv=>whnf)|(refine rwI rfl (by first|omega|(dsimp only; omega)|(simp<;>omega)|(simp_all<;>omega)) (by first|omega|(dsimp only; omega)|(simp<;>omega)|(simp_all<;>omega)) fun c hc=>?_;conv=>whnf)|(refine rwN (enc:=rI) 0 (by first|omega|(dsimp only; omega)|(simp<;>omega)|(simp_all<;>omega)) ?_;conv=>whnf)|(refine w64 (by first|omega|(dsimp only; omega)) (by first|omega|(dsimp only; omega)) ?_;conv=>whnf)|(refine apN (by simp; omega) ?_;conv=>whnf)|(refine rwN (enc:=eL) default (by first|omega|(dsimp only; omega)|(simp<;>omega)|(simp_all<;>omega)) ?_;conv=>whnf)|(refine callIo (xr3 bs _ _ (by omega) (by omega) hbs) ?_; rintro _ _ ⟨f,b'',hb'',rfl,rfl⟩;conv=>whnf)|(refine callIo (xcm bs _ (by omega) hbs) ?_; rintro _ _ ⟨f,b'',hb'',hf,rfl,rfl⟩;conv=>whnf)
    all_goals first
     | exact ⟨_,_,⟨by omega,by omega⟩,Nat.le_trans (Nat.le_of_eq List.length_set) (by omega),congrArg (fun x=>TV.one (.sl 122 x)) (xuh l _ _ _ _ _),rfl⟩
     | exact ⟨_,_,⟨by omega,by omega⟩,by simp; omega,congrArg (fun x=>TV.one (.sl 122 x)) (xr6 l _ _ _ _ _ _ _ _),rfl⟩
     | skip
    rename_i m hm _ _ _ _ _
    refine Vc.loop1 (fun (out:List Line)=>l.length≤out.length∧out.length≤7) (fun out=>updL [0,4,6,25,26,27,28,29,30,31,32,33,87] [(5,.one (.ref 128064))] [(128064,.arr 122 (out.map eL) false)]) (fun out=>7 - out.length) l ⟨by omega,by omega⟩ ?_ (fun out hi=>?_)
    · exact wk
    · have lo':(out.map eL).length=out.length:=List.length_map ..
      obtain ⟨h1,h2⟩:=hi
      conv=>whnf
      (repeat' first|((first|refine sN ?_|refine dC ?_|(refine dZ ?_;refine dI ?_)|refine vM ?_|refine vD ?_|refine mS ?_)<;>conv=>whnf))
      refine xg (fun g=>?_) (fun g=>?_)
      all_goals conv=>whnf
      · repeat' first|((first|refine sN ?_|refine dC ?_|(refine dZ ?_;refine dI ?_)|refine vM ?_|refine vD ?_|refine mS ?_|(refine xa ?_ ?_<;>intro _))<;>conv=>whnf)|(refine ioN (by first|omega|(dsimp only; omega)|(simp<;>omega)|(simp_all<;>omega)) (by first|omega|(dsimp only; omega)|(simp<;>omega)|(simp_all<;>omega)) ?_;conv=>whnf)|(refine rwN (enc:=eL) default (by first|omega|(dsimp only; omega)|(simp<;>omega)|(simp_all<;>omega)) ?_;conv=>whnf)|(refine apN (by simp; omega) ?_;conv=>whnf)
        refine ⟨out++[out.getD m.toNat default],⟨by simp; omega,by simp; omega⟩,by simp; omega,?_⟩
        repeat' (first|exact True.intro|((conv=>whnf);first|exact True.intro|refine ⟨by rfl,?_⟩|refine ⟨by first|omega|(show (_:Int)=_;first|omega|(dsimp only;omega))|exact xic _ _,?_⟩|refine ⟨?_,?_⟩))
      · repeat' first|((first|refine sN ?_|refine dC ?_|(refine dZ ?_;refine dI ?_)|refine vM ?_|refine vD ?_|refine mS ?_|(refine xa ?_ ?_<;>intro _))<;>conv=>whnf)
        exact ⟨out,_,⟨by omega,by omega⟩,by omega,rfl,rfl⟩
 obtain ⟨r,o,⟨f,a',h1,h2,h3,rfl⟩,h4⟩:=key
 exact ⟨_,r,⟨f,a',h1,h2,h3,rfl⟩,h4⟩
end Cc
end
section
namespace Cc
open Go Go.AM
set_option maxRecDepth 100000
set_option maxHeartbeats 4000000
theorem xv2 (l:List (List Line)) (i:Nat) (x:List Line):(l.map eA).set i [fLs x]=(l.set i x).map eA:=List.map_set.symm
theorem xko (bs:List UInt8) (a k:Int) (ha:0≤a∧a≤7000000000) (hk:1≤k∧k≤1000000) (hbs:bs.length≤2000) :
 ∃ os res,(∃ (acts:List (List Line)) (a':Int),(a≤a'∧a'≤a+400)∧acts.length≤10∧res=.one (sAs acts)∧os=aRd bs a')∧Sem P 217 [(.io 0 0,.agg (aRd bs a)),(.pure,I k)] [.agg os] res:=by
 have key:∃ res outs,(∃ (acts:List (List Line)) (a':Int),(a≤a'∧a'≤a+400)∧acts.length≤10∧res=.one (sAs acts)∧outs=[.agg (aRd bs a')])∧Sem P 217 [(.io 0 0,.agg (aRd bs a)),(.pure,I k)] outs res:=by
  refine x6 (E:={ E0 with keep:=[2001] }) xb xc (fn:=Go.Proofs.Tryz.f217) (by kernel_rfl) (by kernel_rfl) ?_
  conv=>whnf
  repeat' first|((first|refine sN ?_|refine dC ?_|(refine dZ ?_;refine dI ?_)|refine vM ?_|refine vD ?_|refine mS ?_|(refine xa ?_ ?_<;>intro _))<;>conv=>whnf)|(refine callIo (xid bs _ (by omega) hbs) ?_; rintro _ _ ⟨l,b',hb',hl,rfl,rfl⟩; obtain ⟨⟨l1,l4⟩,hl⟩:=xa6.1 hl; have lo:(l.map eA).length=l.length:=List.length_map ..;conv=>whnf)|(refine callIo (xk bs _ _ (by omega) (by omega) hbs) ?_; rintro _ _ ⟨n,hn,rfl,rfl⟩;conv=>whnf)|(refine ioN (by first|omega|(dsimp only; omega)|(simp<;>omega)|(simp_all<;>omega)) (by first|omega|(dsimp only; omega)|(simp<;>omega)|(simp_all<;>omega)) ?_;conv=>whnf)|(refine rwI rfl (by first|omega|(dsimp only; omega)|(simp<;>omega)|(simp_all<;>omega)) (by first|omega|(dsimp only; omega)|(simp<;>omega)|(simp_all<;>omega)) fun c hc=>?_;conv=>whnf)|(refine rwN (enc:=rI) 0 (by first|omega|(dsimp only; omega)|(simp<;>omega)|(simp_all<;>omega)) ?_;conv=>whnf)|(refine w64 (by first|omega|(dsimp only; omega)) (by first|omega|(dsimp only; omega)) ?_;conv=>whnf)|(refine apN (by simp; omega) ?_;conv=>whnf)|(refine callIo (xmo bs _ _ (by omega) (by omega) hbs) ?_; rintro _ _ ⟨f,b'',hb'',hf,rfl,rfl⟩;conv=>whnf)|(refine ioN (by decide) (by first|omega|(dsimp only; omega)|(simp<;>omega)|(simp_all<;>omega)) ?_;conv=>whnf)|(refine rwN (enc:=eA) default (by first|omega|(dsimp only; omega)|(simp<;>omega)|(simp_all<;>omega)) ?_;conv=>whnf)
  all_goals first
   | exact ⟨_,_,⟨by omega,by omega⟩,by first|omega|simp|(simp; omega),rfl,rfl⟩
   | exact ⟨[],_,⟨by omega,by omega⟩,by simp,rfl,rfl⟩
   | exact ⟨_,_,⟨by omega,by omega⟩,by simp; omega,congrArg (fun x=>TV.one (.sl 48 x)) (xv2 l _ _),rfl⟩
   | skip
  refine Vc.loop1 (fun (out:List (List Line))=>l.length≤out.length∧out.length≤5) (fun out=>updL [4,33] [(5,.one (.ref 128064))] [(128064,.arr 48 (out.map eA) false)]) (fun out=>7 - out.length) l ⟨by omega,by omega⟩ ?_ (fun out hi=>?_)
  · exact wk
  · have lo':(out.map eA).length=out.length:=List.length_map ..
    obtain ⟨h1,h2⟩:=hi
    conv=>whnf
    (repeat' first|((first|refine sN ?_|refine dC ?_|(refine dZ ?_;refine dI ?_)|refine vM ?_|refine vD ?_|refine mS ?_)<;>conv=>whnf))
    refine xg (fun g=>?_) (fun g=>?_)
    all_goals conv=>whnf
    · repeat' first|((first|refine sN ?_|refine dC ?_|(refine dZ ?_;refine dI ?_)|refine vM ?_|refine vD ?_|refine mS ?_|(refine xa ?_ ?_<;>intro _))<;>conv=>whnf)|(refine ioN (by decide) (by first|omega|(dsimp only; omega)|(simp<;>omega)|(simp_all<;>omega)) ?_;conv=>whnf)|(refine rwN (enc:=eA) default (by first|omega|(dsimp only; omega)|(simp<;>omega)|(simp_all<;>omega)) ?_;conv=>whnf)|(refine apN (by simp; omega) ?_;conv=>whnf)
      refine ⟨out++[out.getD 0 default],⟨by simp; omega,by simp; omega⟩,by simp; omega,?_⟩
      repeat' (first|exact True.intro|((conv=>whnf);first|exact True.intro|refine ⟨by rfl,?_⟩|refine ⟨by first|omega|(show (_:Int)=_;first|omega|(dsimp only;omega))|exact xkn _ _,?_⟩|refine ⟨?_,?_⟩))
    · repeat' first|((first|refine sN ?_|refine dC ?_|(refine dZ ?_;refine dI ?_)|refine vM ?_|refine vD ?_|refine mS ?_|(refine xa ?_ ?_<;>intro _))<;>conv=>whnf)
      exact ⟨out,_,⟨by omega,by omega⟩,by omega,rfl,rfl⟩
 obtain ⟨r,o,⟨f,a',h1,h2,h3,rfl⟩,h4⟩:=key
 exact ⟨_,r,⟨f,a',h1,h2,h3,rfl⟩,h4⟩
abbrev dPl (p:Plan):List AV:=[eI p.Clients,fAs p.Acts,sI p.Gives,sI p.Start]
theorem xie (bs:List UInt8) (a:Int) (ha:0≤a∧a≤7000000000) (hbs:bs.length≤2000) :
 ∃ os res,(∃ (p:Plan) (a':Int),(a≤a'∧a'≤a+300)∧planOk p=true∧res=.agg (dPl p)∧os=aRd bs a')∧Sem P 95 [(.io 0 0,.agg (aRd bs a))] [.agg os] res:=by
 have key:∃ res outs,(∃ (p:Plan) (a':Int),(a≤a'∧a'≤a+300)∧planOk p=true∧res=.agg (dPl p)∧outs=[.agg (aRd bs a')])∧Sem P 95 [(.io 0 0,.agg (aRd bs a))] outs res:=by
  refine x6 (E:=E0) xb xc (fn:=Go.Proofs.Tryz.f95) (by kernel_rfl) (by kernel_rfl) ?_
  conv=>whnf
  repeat' first|((first|refine sN ?_|refine dC ?_|(refine dZ ?_;refine dI ?_)|refine vM ?_|refine vD ?_|refine mS ?_|(refine xa ?_ ?_<;>intro _))<;>conv=>whnf)|(refine callIo (xid bs _ (by omega) hbs) ?_; rintro _ _ ⟨l,b',hb',hl,rfl,rfl⟩;conv=>whnf)|(refine callIo (xk bs _ _ (by omega) (by omega) hbs) ?_; rintro _ _ ⟨n,hn,rfl,rfl⟩;conv=>whnf)|(refine ioN (by first|omega|(dsimp only; omega)|(simp<;>omega)|(simp_all<;>omega)) (by first|omega|(dsimp only; omega)|(simp<;>omega)|(simp_all<;>omega)) ?_;conv=>whnf)|(refine rwI rfl (by first|omega|(dsimp only; omega)|(simp<;>omega)|(simp_all<;>omega)) (by first|omega|(dsimp only; omega)|(simp<;>omega)|(simp_all<;>omega)) fun c hc=>?_;conv=>whnf)|(refine rwN (enc:=rI) 0 (by first|omega|(dsimp only; omega)|(simp<;>omega)|(simp_all<;>omega)) ?_;conv=>whnf)|(refine w64 (by first|omega|(dsimp only; omega)) (by first|omega|(dsimp only; omega)) ?_;conv=>whnf)|(refine apN (by simp; omega) ?_;conv=>whnf)
  rename_i m hm
  refine Vc.loop3 (fun (i:Int) (g:List Int) (b:Int)=>0≤i∧(g.length:Int)=1+n - i∧(∀ x∈g,0≤x∧x≤50)∧a≤b∧b≤a+256 - i) (fun i g b=>updL [0,2,3,5,29,30,31,32,33,34,35,36,37,38,39,40,41,42,43] [(4,I i)] [(128384,.box [eI (1+m),fAs l,.ref 128451,.ref 128452]),(128451,.arr 3 (ints g) false),(63,.box (aRd bs b))]) (fun i _ _=>i.toNat) (1+n) [] (b'+1) ⟨by omega,by simp,by simp,by omega,by omega⟩ ?_ (fun i g b hi=>?_)
  · exact wk
  · obtain ⟨i0,hg,hgb,b1,b2⟩:=hi
    have lg:=xe g
    conv=>whnf
    (repeat' first|((first|refine sN ?_|refine dC ?_|(refine dZ ?_;refine dI ?_)|refine vM ?_|refine vD ?_|refine mS ?_)<;>conv=>whnf))
    refine xg (fun gd=>?_) (fun gd=>?_)
    all_goals conv=>whnf
    · repeat' first|((first|refine sN ?_|refine dC ?_|(refine dZ ?_;refine dI ?_)|refine vM ?_|refine vD ?_|refine mS ?_|(refine xa ?_ ?_<;>intro _))<;>conv=>whnf)|(refine callIo (xk bs _ _ (by omega) (by omega) hbs) ?_; rintro _ _ ⟨n,hn,rfl,rfl⟩;conv=>whnf)|(refine ioN (by first|omega|(dsimp only; omega)|(simp<;>omega)|(simp_all<;>omega)) (by first|omega|(dsimp only; omega)|(simp<;>omega)|(simp_all<;>omega)) ?_;conv=>whnf)|(refine rwI rfl (by first|omega|(dsimp only; omega)|(simp<;>omega)|(simp_all<;>omega)) (by first|omega|(dsimp only; omega)|(simp<;>omega)|(simp_all<;>omega)) fun c hc=>?_;conv=>whnf)|(refine rwN (enc:=rI) 0 (by first|omega|(dsimp only; omega)|(simp<;>omega)|(simp_all<;>omega)) ?_;conv=>whnf)|(refine w64 (by first|omega|(dsimp only; omega)) (by first|omega|(dsimp only; omega)) ?_;conv=>whnf)|(refine apN (by simp; omega) ?_;conv=>whnf)
      have hc2:0≤c∧c≤50:=by simp [unI] at hc; omega
      refine ⟨i - 1,g++[c],b+1,⟨by omega,by simp; omega,fun x hx=>?_,by omega,by omega⟩,by simp only; omega,?_⟩
      · rcases List.mem_append.1 hx with h|h
        · exact hgb x h
        · rw [List.mem_singleton.1 h]; exact hc2
      · repeat' (first|exact True.intro|((conv=>whnf);first|exact True.intro|refine ⟨by rfl,?_⟩|refine ⟨by first|omega|(show (_:Int)=_;first|omega|(dsimp only;omega))|exact qa _ _,?_⟩|refine ⟨?_,?_⟩))
    · (repeat' first|((first|refine sN ?_|refine dC ?_|(refine dZ ?_;refine dI ?_)|refine vM ?_|refine vD ?_|refine mS ?_)<;>conv=>whnf))
      refine Vc.loop3 (fun (v:Nat) (st:List Int) (b3:Int)=>v≤3∧st.length=v∧(∀ x∈st,-1000≤x∧x≤1000)∧a≤b3∧b3≤a+260+v) (fun v st b3=>updL [0,2,3,43] [(5,I v)] [(128384,.box [eI (1+m),fAs l,.ref 128451,.ref 128452]),(128452,.arr 3 (ints st) false),(63,.box (aRd bs b3))]) (fun v _ _=>3 - v) 0 [] b ⟨by omega,rfl,by simp,by omega,by omega⟩ ?_ (fun v st b3 hi=>?_)
      · exact wk
      · obtain ⟨v3,hs,hsb,c1,c2⟩:=hi
        have ls:=xe st
        conv=>whnf
        (repeat' first|((first|refine sN ?_|refine dC ?_|(refine dZ ?_;refine dI ?_)|refine vM ?_|refine vD ?_|refine mS ?_)<;>conv=>whnf))
        refine xg (fun gd2=>?_) (fun gd2=>?_)
        all_goals conv=>whnf
        · repeat' first|((first|refine sN ?_|refine dC ?_|(refine dZ ?_;refine dI ?_)|refine vM ?_|refine vD ?_|refine mS ?_|(refine xa ?_ ?_<;>intro _))<;>conv=>whnf)|(refine callIo (xk bs _ _ (by omega) (by omega) hbs) ?_; rintro _ _ ⟨n,hn,rfl,rfl⟩;conv=>whnf)|(refine ioN (by first|omega|(dsimp only; omega)|(simp<;>omega)|(simp_all<;>omega)) (by first|omega|(dsimp only; omega)|(simp<;>omega)|(simp_all<;>omega)) ?_;conv=>whnf)|(refine rwI rfl (by first|omega|(dsimp only; omega)|(simp<;>omega)|(simp_all<;>omega)) (by first|omega|(dsimp only; omega)|(simp<;>omega)|(simp_all<;>omega)) fun c hc=>?_;conv=>whnf)|(refine rwN (enc:=rI) 0 (by first|omega|(dsimp only; omega)|(simp<;>omega)|(simp_all<;>omega)) ?_;conv=>whnf)|(refine w64 (by first|omega|(dsimp only; omega)) (by first|omega|(dsimp only; omega)) ?_;conv=>whnf)|(refine apN (by simp; omega) ?_;conv=>whnf)
          have hc2 : -1000≤c∧c≤1000:=by simp [unI] at hc; omega
          refine ⟨v+1,st++[c],b3+1,⟨by omega,by simp; omega,fun x hx=>?_,by omega,by omega⟩,by simp only; omega,?_⟩
          · rcases List.mem_append.1 hx with h|h
            · exact hsb x h
            · rw [List.mem_singleton.1 h]; exact hc2
          · repeat' (first|exact True.intro|((conv=>whnf);first|exact True.intro|refine ⟨by rfl,?_⟩|refine ⟨by first|omega|(show (_:Int)=_;first|omega|(dsimp only;omega))|exact qa _ _,?_⟩|refine ⟨?_,?_⟩))
        · (repeat' first|((first|refine sN ?_|refine dC ?_|(refine dZ ?_;refine dI ?_)|refine vM ?_|refine vD ?_|refine mS ?_)<;>conv=>whnf))
          refine ⟨⟨1+m,l,g,st⟩,b3,⟨by omega,by omega⟩,?_,rfl,rfl⟩
          simp only [planOk,Bool.and_eq_true,Plan.treaty,trtOk,givesOk,valOk,List.all_eq_true]
          refine ⟨⟨⟨xf.2 (by omega),hl⟩,xh.2 ⟨by omega,hsb⟩⟩,xh.2 ⟨by omega,fun x hx=>?_⟩,xf.2 (by omega),fun x hx=>xf.2 (hgb x hx)⟩
          have:=hsb x hx; omega
 obtain ⟨r,o,⟨f,a',h1,h2,h3,rfl⟩,h4⟩:=key
 exact ⟨_,r,⟨f,a',h1,h2,h3,rfl⟩,h4⟩
end Cc
end
section
namespace Cc
open Go Go.AM
set_option maxRecDepth 100000
set_option maxHeartbeats 4000000
theorem xal {p:Plan} (h:planOk p=true):(1≤p.Clients∧p.Clients≤4)∧(1≤p.Acts.length∧p.Acts.length≤4)∧(1≤p.Gives.length∧p.Gives.length≤3)∧p.Start.length=3:=by
 simp only [planOk,Bool.and_eq_true,Plan.treaty,trtOk,givesOk] at h
 obtain ⟨⟨⟨h1,h2⟩,h3⟩,h4,h5,h6⟩:=h
 have h1:=xf.1 h1
 have h2:=(xa6.1 h2).1
 have h5:=xf.1 h5
 have h3:=(xh.1 h3).1
 exact ⟨h1,h2,by omega,h3⟩
def planS (p:Plan):Prop:=(-10≤p.Clients∧p.Clients≤10)∧p.Acts.length≤10∧p.Gives.length≤10∧p.Start.length≤3
theorem drPlan {a m:Int} {bs:List UInt8} {res:TV} {os:List TV} {c:Int} {l:List (List Line)} {g s:List Int} {a':Int} (e:res=.agg [eI c,fAs l,sI g,sI s]) (e2:os=[.agg (aRd bs a')]) (hb:a≤a'∧a'≤a+m) (h:planS ⟨c,l,g,s⟩) :
 ∃ (p:Plan) (a':Int),(a≤a'∧a'≤a+m)∧planS p∧res=.agg (dPl p)∧os=[.agg (aRd bs a')]:=⟨⟨c,l,g,s⟩,a',hb,h,e,e2⟩
theorem xr7 (l:List Int) (x y z:Int):ints l++[rI x,rI y,rI z]=ints (l++[x,y,z]):=by simp
theorem xd0 (bs:List UInt8) (a k:Int) (ha:0≤a∧a≤6000000000) (hk:1≤k∧k≤1000000) (hbs:bs.length≤2000) :
 ∃ os res,(∃ (p:Plan) (a':Int),(a≤a'∧a'≤a+800)∧planS p∧res=.agg (dPl p)∧os=aRd bs a')∧Sem P 121 [(.io 0 0,.agg (aRd bs a)),(.pure,I k)] [.agg os] res:=by
 have key:∃ res outs,(∃ (p:Plan) (a':Int),(a≤a'∧a'≤a+800)∧planS p∧res=.agg (dPl p)∧outs=[.agg (aRd bs a')])∧Sem P 121 [(.io 0 0,.agg (aRd bs a)),(.pure,I k)] outs res:=by
  refine x6 (E:={ E0 with keep:=[2001],cut:=[6002] }) xb xc (fn:=Go.Proofs.Tryz.f121) (by kernel_rfl) (by kernel_rfl) ?_
  conv=>whnf
  repeat' first|((first|refine sN ?_|refine dC ?_|(refine dZ ?_;refine dI ?_)|refine vM ?_|refine vD ?_|refine mS ?_|(refine xa ?_ ?_<;>intro _))<;>conv=>whnf)|(refine callIo (xie bs _ (by omega) hbs) ?_; rintro _ _ ⟨p,b',hb',hp,rfl,rfl⟩; obtain ⟨p1,p2,p3,p4⟩:=xal hp;conv=>whnf)|(refine callIo (xk bs _ _ (by omega) (by omega) hbs) ?_; rintro _ _ ⟨n,hn,rfl,rfl⟩;conv=>whnf)|(refine ioN (by first|omega|(dsimp only; omega)|(simp<;>omega)|(simp_all<;>omega)) (by first|omega|(dsimp only; omega)|(simp<;>omega)|(simp_all<;>omega)) ?_;conv=>whnf)|(refine rwI rfl (by first|omega|(dsimp only; omega)|(simp<;>omega)|(simp_all<;>omega)) (by first|omega|(dsimp only; omega)|(simp<;>omega)|(simp_all<;>omega)) fun c hc=>?_;conv=>whnf)|(refine rwN (enc:=rI) 0 (by first|omega|(dsimp only; omega)|(simp<;>omega)|(simp_all<;>omega)) ?_;conv=>whnf)|(refine w64 (by first|omega|(dsimp only; omega)) (by first|omega|(dsimp only; omega)) ?_;conv=>whnf)|(refine apN (by simp; omega) ?_;conv=>whnf)|(refine callIo (xko bs _ _ (by omega) (by omega) hbs) ?_; rintro _ _ ⟨l,b'',hb'',hl,rfl,rfl⟩;conv=>whnf)|(refine ioN (by decide) (by first|omega|(dsimp only; omega)|(simp<;>omega)|(simp_all<;>omega)) ?_;conv=>whnf)|(refine rwN (enc:=rI) 0 (by first|omega|(dsimp only; omega)|(simp<;>omega)|(simp_all<;>omega)) ?_;conv=>whnf)|(refine slN (by decide) (by decide) (by first|omega|(dsimp only; omega)|(simp<;>omega)|(simp_all<;>omega)) ?_;conv=>whnf)|((first|refine ctN ?_)<;>conv=>whnf)
  all_goals
   apply drPlan
   · (try simp only [yr,xr7,xib]); rfl
   · rfl
   · constructor<;>omega
   · (try simp only [unI,List.mem_cons,List.not_mem_nil,or_false] at hc); (simp [planS]; omega)
 obtain ⟨r,o,⟨f,a',h1,h2,h3,rfl⟩,h4⟩:=key
 exact ⟨_,r,⟨f,a',h1,h2,h3,rfl⟩,h4⟩
def cllS (c:Call):Prop:=(-10≤c.Client∧c.Client≤10)∧(0≤c.Seq∧c.Seq≤400)∧(-10≤c.Act∧c.Act≤10)∧c.Args.length≤3
theorem drCall {a m:Int} {bs:List UInt8} {res:TV} {os:List TV} {x y z:Int} {g:List Int} {a':Int} (e:res=.agg [eI x,eI y,eI z,fI g]) (e2:os=[.agg (aRd bs a')]) (hb:a≤a'∧a'≤a+m) (h:cllS ⟨x,y,z,g⟩) :
 ∃ (c:Call) (a':Int),(a≤a'∧a'≤a+m)∧cllS c∧res=.agg (eC c)∧os=[.agg (aRd bs a')]:=⟨⟨x,y,z,g⟩,a',hb,h,e,e2⟩
theorem xui {a b:Int} (hb:0<b) (ha:0≤a):a % b≤a:=by
 have h1:=Int.emod_add_mul_ediv a b
 have h2:0≤b*(a / b):=Int.mul_nonneg (by omega) (Int.ediv_nonneg ha (by omega))
 omega
theorem r64g {a b:Int} {k:Int→Prop} (hb:0<b) (ha:0≤a) (h:∀ c,0≤c→c<b→c≤a→k c):b≠0∧∃ c,a.tmod b=c∧k c :=
 r64 hb ha (h _ (Int.emod_nonneg _ (by omega)) (Int.emod_lt_of_pos _ hb) (xui hb ha))
theorem xd1 (bs:List UInt8) (a k:Int) (p:Plan) (hp:planS p) (ha:0≤a∧a≤6000000000) (hk:1≤k∧k≤1000000) (hbs:bs.length≤2000) :
 ∃ os res,(∃ (c:Call) (a':Int),(a≤a'∧a'≤a+30)∧cllS c∧res=.agg (eC c)∧os=aRd bs a')∧Sem P 119 [(.io 0 0,.agg (aRd bs a)),(.pure,.agg (aPl p)),(.pure,I k)] [.agg os] res:=by
 have key:∃ res outs,(∃ (c:Call) (a':Int),(a≤a'∧a'≤a+30)∧cllS c∧res=.agg (eC c)∧outs=[.agg (aRd bs a')])∧Sem P 119 [(.io 0 0,.agg (aRd bs a)),(.pure,.agg (aPl p)),(.pure,I k)] outs res:=by
  obtain ⟨p1,p2,p3,p4⟩:=hp
  have la:(p.Acts.map eA).length=p.Acts.length:=List.length_map ..
  refine x6 (E:=E0) xb xc (fn:=Go.Proofs.Tryz.f119) (by kernel_rfl) (by kernel_rfl) ?_
  conv=>whnf
  repeat' first|((first|refine sN ?_|refine dC ?_|(refine dZ ?_;refine dI ?_)|refine vM ?_|refine vD ?_|refine mS ?_|(refine xa ?_ ?_<;>intro _))<;>conv=>whnf)|(refine callIo (xk bs _ _ (by omega) (by omega) hbs) ?_; rintro _ _ ⟨n,hn,rfl,rfl⟩;conv=>whnf)|(refine ioN (by first|omega|(dsimp only; omega)|(simp<;>omega)|(simp_all<;>omega)) (by first|omega|(dsimp only; omega)|(simp<;>omega)|(simp_all<;>omega)) ?_;conv=>whnf)|(refine rwI rfl (by first|omega|(dsimp only; omega)|(simp<;>omega)|(simp_all<;>omega)) (by first|omega|(dsimp only; omega)|(simp<;>omega)|(simp_all<;>omega)) fun c hc=>?_;conv=>whnf)|(refine rwN (enc:=rI) 0 (by first|omega|(dsimp only; omega)|(simp<;>omega)|(simp_all<;>omega)) ?_;conv=>whnf)|(refine w64 (by first|omega|(dsimp only; omega)) (by first|omega|(dsimp only; omega)) ?_;conv=>whnf)|(refine apN (by simp; omega) ?_;conv=>whnf)|(refine callIo (xa5 bs _ _ (by omega) (by omega) hbs) ?_; rintro _ _ ⟨l,b'',hb'',hl,rfl,rfl⟩;conv=>whnf)|(refine r64g (by first|omega|(dsimp only; omega)|(simp<;>omega)|(simp_all<;>omega)) (by first|omega|(dsimp only; omega)|(simp<;>omega)|(simp_all<;>omega)) fun c h1 h2 h3=>?_;conv=>whnf)
  all_goals
   apply drCall
   · rfl
   · rfl
   · constructor<;>omega
   · (try simp only [unI,List.mem_cons,List.not_mem_nil,or_false] at hc); (simp [cllS]; omega)
 obtain ⟨r,o,⟨f,a',h1,h2,h3,rfl⟩,h4⟩:=key
 exact ⟨_,r,⟨f,a',h1,h2,h3,rfl⟩,h4⟩
end Cc
end
section
namespace Cc
open Go Go.AM
set_option maxRecDepth 100000
set_option maxHeartbeats 4000000
theorem zb {α β:Type} [Inhabited α] {l:List α} {g:α→β} {i:Nat} (h:i<l.length):(l.take i).map g++[g (l.getD i default)]=(l.take (i+1)).map g:=by
 rw [List.take_add_one,List.map_append,List.getElem?_eq_getElem h,List.getD_eq_getElem?_getD,List.getElem?_eq_getElem h]
 rfl
theorem xx {α:Type} [Inhabited α] {l:List α} {i:Nat} (h:i<l.length):l.getD i default∈l:=by
 rw [List.getD_eq_getElem?_getD,List.getElem?_eq_getElem h]; exact List.getElem_mem h
theorem qq (v:Nat) (hv:v<3):Sem P 236 [(.pure,I v)] [] (.agg (aF (Form.pot v))):=by
 match v,hv with
 | 0,_|1,_|2,_ =>
   refine xd (E:={ E0 with keep:=[4000] }) xb xc (fn:=Go.Proofs.Tryz.f236) (by kernel_rfl) (by kernel_rfl) (fun hb=>?_)
   conv=>whnf
   repeat' first|((first|refine sN ?_|refine dC ?_|(refine dZ ?_;refine dI ?_)|refine vM ?_|refine vD ?_|refine mS ?_|(refine xa ?_ ?_<;>intro _)|refine ⟨_,yd _ _ _,?_⟩|refine ⟨_,v7,?_⟩|refine ioK (Nat.le_of_ble_eq_true rfl) ?_|refine rwC rfl ?_)<;>conv=>whnf)
   all_goals first|(rename_i h; exact absurd h (by decide))|exact ⟨rfl,rfl⟩
theorem xmp (f:Form) (h:f.C.length≤100000∧f.D.length≤100000):Sem P 187 [(.pure,.agg (aF f))] [] (.agg (aF f)):=by
 refine xd (E:={ E0 with keep:=[2002,2005] }) xb xc (fn:=Go.Proofs.Tryz.f187) (by kernel_rfl) (by kernel_rfl) (fun hb=>?_)
 conv=>whnf
 repeat' first|((first|refine sN ?_|refine dC ?_|(refine dZ ?_;refine dI ?_)|refine vM ?_|refine vD ?_|refine mS ?_|(refine xa ?_ ?_<;>intro _)|refine ⟨_,x8 f.C h.1,?_⟩|refine ⟨_,x8 f.D h.2,?_⟩)<;>conv=>whnf)
 exact ⟨rfl,rfl⟩
def shs (l:List Form):Prop:=l.length≤100∧∀ f∈l,f.sh
theorem xuj {f:Form} (h:f.sh):f.C.length≤100000∧f.D.length≤100000:=by obtain ⟨h1,h2⟩:=h; omega
theorem yo (l:List Form) (hl:shs l):Sem P 303 [(.pure,.one (sFs l))] [] (.one (sFs l)):=by
 have hl1:=hl.1
 refine xd (E:=E0) xb xc (fn:=Go.Proofs.Tryz.f303) (by kernel_rfl) (by kernel_rfl) (fun hb=>?_)
 conv=>whnf
 (repeat' first|((first|refine sN ?_|refine dC ?_|(refine dZ ?_;refine dI ?_)|refine vM ?_|refine vD ?_|refine mS ?_)<;>conv=>whnf))
 refine Vc.loop1 (fun (i:Nat)=>i≤l.length) (fun i=>updL [2,6,7,18] [(8,I i),(3,.one (.ref 128000))] [(128000,.arr 115 ((l.take i).map eF) false)]) (fun i=>l.length - i) 0 (Nat.zero_le _) ?_ (fun i hi=>?_)
 · exact wk
 · have hlm:(l.map eF).length=l.length:=List.length_map ..
   have hlo:((l.take i).map eF).length=i:=by rw [List.length_map,List.length_take]; omega
   conv=>whnf
   (repeat' first|((first|refine sN ?_|refine dC ?_|(refine dZ ?_;refine dI ?_)|refine vM ?_|refine vD ?_|refine mS ?_)<;>conv=>whnf))
   refine xg (fun g=>?_) (fun g=>?_)
   all_goals conv=>whnf
   · repeat' first|((first|refine sN ?_|refine dC ?_|(refine dZ ?_;refine dI ?_)|refine vM ?_|refine vD ?_|refine mS ?_|(refine xa ?_ ?_<;>intro _)|refine ixN (enc:=eF) default (by omega) ?_|refine ⟨_,xmp (l.getD i default) (xuj (hl.2 _ (xx (by omega)))),?_⟩)<;>conv=>whnf)|(refine apN (by first|omega|(simp; omega)) ?_;conv=>whnf)|(refine w64 (by first|omega|(dsimp only; omega)) (by first|omega|(dsimp only; omega)) ?_;conv=>whnf)
     refine ⟨i+1,by omega,by simp only; omega,?_⟩
     repeat' (first|exact True.intro|((conv=>whnf);first|exact True.intro|refine ⟨by rfl,?_⟩|refine ⟨by first|omega|(show (_:Int)=_;first|omega|(dsimp only;omega))|exact zb (by omega),?_⟩|refine ⟨?_,?_⟩))
   · have hend:l.take i=l:=List.take_of_length_le (by omega)
     (repeat' first|((first|refine sN ?_|refine dC ?_|(refine dZ ?_;refine dI ?_)|refine vM ?_|refine vD ?_|refine mS ?_)<;>conv=>whnf))
     exact ⟨by rw [hend],rfl⟩
theorem lin1 {f:Form} (h:f.sh):lin Form.zero f 1=f:=by
 obtain ⟨C,D,K⟩:=f
 obtain ⟨a,b,c,rfl⟩:=len3 h.1
 obtain ⟨d,e,rfl⟩:=len2 h.2
 simp [lin,Form.zero]
theorem y7 (l:List Form) (hl:l.length≤100) (hb':∀ f∈l,f.bd 10000000):Sem P 267 [(.pure,.one (sFs l))] [] (.one (sFs l)):=by
 refine xd (E:=E0) xb xc (fn:=Go.Proofs.Tryz.f267) (by kernel_rfl) (by kernel_rfl) (fun hb=>?_)
 conv=>whnf
 (repeat' first|((first|refine sN ?_|refine dC ?_|(refine dZ ?_;refine dI ?_)|refine vM ?_|refine vD ?_|refine mS ?_)<;>conv=>whnf))
 refine Vc.loop1 (fun (i:Nat)=>i≤l.length) (fun i=>updL [0,2,21] [(4,I i),(3,.one (.ref 128000))] [(128000,.arr 115 ((l.take i).map (fun f=>eF (lin Form.zero f 1))) false)]) (fun i=>l.length - i) 0 (Nat.zero_le _) ?_ (fun i hi=>?_)
 · exact wk
 · have hlm:(l.map eF).length=l.length:=List.length_map ..
   have hlo:((l.take i).map (fun f=>eF (lin Form.zero f 1))).length=i:=by rw [List.length_map,List.length_take]; omega
   conv=>whnf
   (repeat' first|((first|refine sN ?_|refine dC ?_|(refine dZ ?_;refine dI ?_)|refine vM ?_|refine vD ?_|refine mS ?_)<;>conv=>whnf))
   refine xg (fun g=>?_) (fun g=>?_)
   all_goals conv=>whnf
   · repeat' first|((first|refine sN ?_|refine dC ?_|(refine dZ ?_;refine dI ?_)|refine vM ?_|refine vD ?_|refine mS ?_|(refine xa ?_ ?_<;>intro _)|refine ixN (enc:=eF) default (by omega) ?_|refine ⟨_,zr,?_⟩|refine ⟨_,z8 Form.zero (l.getD i default) 1 (xi xb1 (by decide)) (hb' _ (xx (by omega))) (by decide),?_⟩)<;>conv=>whnf)|(refine apN (by first|omega|(simp; omega)) ?_;conv=>whnf)|(refine w64 (by first|omega|(dsimp only; omega)) (by first|omega|(dsimp only; omega)) ?_;conv=>whnf)
     refine ⟨i+1,by omega,by simp only; omega,?_⟩
     repeat' (first|exact True.intro|((conv=>whnf);first|exact True.intro|refine ⟨by rfl,?_⟩|refine ⟨by first|omega|(show (_:Int)=_;first|omega|(dsimp only;omega))|exact zb (by omega),?_⟩|refine ⟨?_,?_⟩))
   · have hend:l.take i=l:=List.take_of_length_le (by omega)
     (repeat' first|((first|refine sN ?_|refine dC ?_|(refine dZ ?_;refine dI ?_)|refine vM ?_|refine vD ?_|refine mS ?_)<;>conv=>whnf))
     exact ⟨by rw [hend]; exact congrArg (fun x=>TV.one (.sl 115 x)) (List.map_congr_left fun f hf=>by rw [lin1 (hb' f hf).1]),rfl⟩
end Cc
end
section
namespace Go.AM
open Go
def loopQ6 {E:Env} {α β γ δ ε ζ:Type} (P:α→β→γ→δ→ε→ζ→Prop) (upd:α→β→γ→δ→ε→ζ→St→St) (μ:α→β→γ→δ→ε→ζ→Nat) (st:St) (m:Nat) (Q:Ex→St→Prop) (e:Ex) (st':St):Prop:=match e with
 | .normal=>∃ a' b' c' d' e' f',P a' b' c' d' e' f'∧μ a' b' c' d' e' f'<m∧weak st' (upd a' b' c' d' e' f' st)
 | .exit id=>Q (.exit id) st'
 | .ret=>Q .ret st'
theorem Vc.loop6 {E:Env} {cd:Code} {st:St} {Q:Ex→St→Prop} {α β γ δ ε ζ:Type} (P:α→β→γ→δ→ε→ζ→Prop) (upd:α→β→γ→δ→ε→ζ→St→St) (μ:α→β→γ→δ→ε→ζ→Nat) (a0:α) (b0:β) (c0:γ) (d0:δ) (e0:ε) (f0:ζ) (h0:P a0 b0 c0 d0 e0 f0) (h1:weak st (upd a0 b0 c0 d0 e0 f0 st))
 (h2:∀ a b c d e f,P a b c d e f→fSt (upd a b c d e f st) fun s=>Vc E cd s (loopQ6 (E:=E) P upd μ st (μ a b c d e f) Q)):Vc E (.loop cd) st Q:=by
 refine Vc.loop1 (α:=α × β × γ × δ × ε × ζ) (fun x=>P x.1 x.2.1 x.2.2.1 x.2.2.2.1 x.2.2.2.2.1 x.2.2.2.2.2) (fun x=>upd x.1 x.2.1 x.2.2.1 x.2.2.2.1 x.2.2.2.2.1 x.2.2.2.2.2) (fun x=>μ x.1 x.2.1 x.2.2.1 x.2.2.2.1 x.2.2.2.2.1 x.2.2.2.2.2) (a0,b0,c0,d0,e0,f0) h0 h1 fun x hx=>?_
 have h:=h2 x.1 x.2.1 x.2.2.1 x.2.2.2.1 x.2.2.2.2.1 x.2.2.2.2.2 hx
 rw [xdu] at h ⊢
 have e:loopQ6 (E:=E) P upd μ st (μ x.1 x.2.1 x.2.2.1 x.2.2.2.1 x.2.2.2.2.1 x.2.2.2.2.2) Q=loopQ1 (α:=α × β × γ × δ × ε × ζ) (fun x=>P x.1 x.2.1 x.2.2.1 x.2.2.2.1 x.2.2.2.2.1 x.2.2.2.2.2) (fun x=>upd x.1 x.2.1 x.2.2.1 x.2.2.2.1 x.2.2.2.2.1 x.2.2.2.2.2) (fun x=>μ x.1 x.2.1 x.2.2.1 x.2.2.2.1 x.2.2.2.2.1 x.2.2.2.2.2) st (μ x.1 x.2.1 x.2.2.1 x.2.2.2.1 x.2.2.2.2.1 x.2.2.2.2.2) Q:=by
  funext e st'
  cases e with
  | normal=>exact propext ⟨fun ⟨a',b',c',d',e',f',q⟩=>⟨(a',b',c',d',e',f'),q⟩,fun ⟨x,q⟩=>⟨x.1,x.2.1,x.2.2.1,x.2.2.2.1,x.2.2.2.2.1,x.2.2.2.2.2,q⟩⟩
  | exit id=>rfl
  | ret=>rfl
 rw [← e]; exact h
end Go.AM
namespace Cc
open Go Go.AM
theorem xeo {act:List Line} {i:Nat} (h:i<act.length):act.drop i=act.getD i default::act.drop (i+1):=by
 rw [List.drop_eq_getElem_cons h,List.getD_eq_getElem?_getD,List.getElem?_eq_getElem h]; rfl
structure Wk (act:List Line) (i:Nat) (p q r:Form) (g t:List Form):Prop where
 b:∃ m:Int,0≤m∧(m+4)*pw (act.length - i)≤588245∧p.bd m∧q.bd m∧r.bd m
 g:g.length+(act.length - i)≤50∧∀ f∈g,f.bd 588246
 t:t.length+(act.length - i)≤50∧∀ f∈t,f.bd 588246
section
variable {act:List Line} {i:Nat} {p q r:Form} {g t:List Form}
theorem Wk.start (h:act.length≤6):Wk act 0 (Form.pot 0) (Form.pot 1) (Form.pot 2) [] []:=by
 refine ⟨⟨1,by decide,?_,z7 0,z7 1,z7 2⟩,⟨by simp; omega,by simp⟩,⟨by simp; omega,by simp⟩⟩
 have h1:=w9 (n:=act.length - 0) (k:=6) (by omega)
 have h2:pw 6=117649:=by decide
 omega
theorem Wk.pots (w:Wk act i p q r g t):p.bd 1000000∧q.bd 1000000∧r.bd 1000000:=by
 obtain ⟨m,h0,h1,hp,hq,hr⟩:=w.b
 have h2:=xaj (act.length - i)
 have:(m+4)*1≤(m+4)*pw (act.length - i):=Int.mul_le_mul_of_nonneg_left h2 (by omega)
 exact ⟨xi hp (by omega),xi hq (by omega),xi hr (by omega)⟩
theorem Wk.lists (w:Wk act i p q r g t):(g.length≤50∧∀ f∈g,f.bd 10000000)∧(t.length≤50∧∀ f∈t,f.bd 10000000) :=
 ⟨⟨by have:=w.g.1; omega,fun f hf=>xi (w.g.2 f hf) (by decide)⟩,⟨by have:=w.t.1; omega,fun f hf=>xi (w.t.2 f hf) (by decide)⟩⟩
theorem Wk.mid (w:Wk act i p q r g t) (h:i<act.length) (hs:(act.getD i default).Form.small=true) :
 ∃ m:Int,0≤m∧(7*m+28)*pw (act.length - (i+1))≤588245∧7*m+28≤588245∧p.bd m∧q.bd m∧r.bd m∧(into (act.getD i default).Form [p,q,r]).bd (6*m+20):=by
 obtain ⟨m,h0,h1,hp,hq,hr⟩:=w.b
 rw [show act.length - i=(act.length - (i+1))+1 from by omega,xhp] at h1
 have hpl:=xaj (act.length - (i+1))
 have hmul:(m+4)*(7*pw (act.length - (i+1)))=(7*m+28)*pw (act.length - (i+1)):=by
  rw [← Int.mul_assoc,Int.mul_comm (m+4) 7,Int.mul_add]; rfl
 have hm2:(7*m+28)*pw (act.length - (i+1))≤588245:=by omega
 refine ⟨m,h0,hm2,?_,hp,hq,hr,xno hs hp hq hr⟩
 have:(7*m+28)*1≤(7*m+28)*pw (act.length - (i+1)):=Int.mul_le_mul_of_nonneg_left hpl (by omega)
 omega
theorem Wk.into (w:Wk act i p q r g t) (h:i<act.length) (hs:(act.getD i default).Form.small=true):(Cc.into (act.getD i default).Form [p,q,r]).bd 588246:=by
 obtain ⟨m,h0,h1,h2,hp,hq,hr,hf⟩:=w.mid h hs
 exact xi hf (by omega)
theorem Wk.on (w:Wk act i p q r g t) (h:i<act.length) (hs:(act.getD i default).Form.small=true) {k:Nat} (hk:i+1≤k) {g' t':List Form} (hg:g'=g∨∃ f:Form,f.bd 588246∧g'=g++[f]) (ht:t'=t∨∃ f:Form,f.bd 588246∧t'=t++[f]):Wk act k p q r g' t':=by
 obtain ⟨m,h0,h1,h2,hp,hq,hr,hf⟩:=w.mid h hs
 have key:∀ {l l':List Form},(l.length+(act.length - i)≤50∧∀ f∈l,f.bd 588246)→(l'=l∨∃ f:Form,f.bd 588246∧l'=l++[f])→l'.length+(act.length - k)≤50∧∀ f∈l',f.bd 588246:=by
  rintro l l' ⟨a,b⟩ (rfl|⟨f,hf,rfl⟩)
  · exact ⟨by omega,b⟩
  · refine ⟨by simp only [List.length_append,List.length_singleton]; omega,fun x hx=>?_⟩
    rcases List.mem_append.1 hx with hx|hx
    · exact b x hx
    · rw [List.mem_singleton.1 hx]; exact hf
 refine ⟨⟨m,h0,?_,hp,hq,hr⟩,key w.g hg,key w.t ht⟩
 have a1:=w9 (n:=act.length - k) (k:=act.length - (i+1)) (by omega)
 have a2:(m+4)*pw (act.length - k)≤(m+4)*pw (act.length - (i+1)):=Int.mul_le_mul_of_nonneg_left a1 (by omega)
 have a3:(m+4)*pw (act.length - (i+1))≤(7*m+28)*pw (act.length - (i+1)):=Int.mul_le_mul_of_nonneg_right (by omega) (by have:=xaj (act.length - (i+1)); omega)
 omega
theorem Wk.minus (w:Wk act i p q r g t) (h:i<act.length) (hs:(act.getD i default).Form.small=true):(Cc.minus (Cc.into (act.getD i default).Form [p,q,r])).bd 588246:=by
 obtain ⟨m,h0,h1,h2,hp,hq,hr,hf⟩:=w.mid h hs
 exact xi (xj8 hf) (by omega)
theorem Wk.add (w:Wk act i p q r g t) (h:i<act.length) (hs:(act.getD i default).Form.small=true) {p' q' r':Form}
 (hp':p'=p∨p'=lin p (Cc.into (act.getD i default).Form [p,q,r]) 1) (hq':q'=q∨q'=lin q (Cc.into (act.getD i default).Form [p,q,r]) 1) (hr':r'=r∨r'=lin r (Cc.into (act.getD i default).Form [p,q,r]) 1):Wk act (i+1) p' q' r' g t:=by
 obtain ⟨m,h0,h1,h2,hp,hq,hr,hf⟩:=w.mid h hs
 have one:∀ {x y:Form},x.bd m→(y=x∨y=lin x (Cc.into (act.getD i default).Form [p,q,r]) 1)→y.bd (7*m+20):=by
  rintro x y hx (rfl|rfl)
  · exact xi hx (by omega)
  · exact xi (yw (k:=1) hx hf (by decide)) (by omega)
 refine ⟨⟨7*m+20,by omega,?_,one hp hp',one hq hq',one hr hr'⟩,⟨by have:=w.g.1; omega,w.g.2⟩,⟨by have:=w.t.1; omega,w.t.2⟩⟩
 have:(7*m+20+4)*pw (act.length - (i+1))≤(7*m+28)*pw (act.length - (i+1)):=Int.mul_le_mul_of_nonneg_right (by omega) (by have:=xaj (act.length - (i+1)); omega)
 omega
theorem Wk.sum (w:Wk act i p q r g t) (h:i<act.length) (hs:(act.getD i default).Form.small=true) {x:Form} (hx:x=p∨x=q∨x=r):(lin x (Cc.into (act.getD i default).Form [p,q,r]) 1).bd 1000000:=by
 obtain ⟨m,h0,h1,h2,hp,hq,hr,hf⟩:=w.mid h hs
 have:x.bd m:=by rcases hx with rfl|rfl|rfl<;>assumption
 exact xi (yw (k:=1) this hf (by decide)) (by omega)
theorem xkp (h:act.length≤i) (ps g t:List Form):walk (act.drop i) ps g t=[rowEnd ps g t]:=by
 rw [List.drop_of_length_le h]; unfold walk; rfl
theorem xd2 (h:i<act.length) (hk:(act.getD i default).Kind=4) (ps g t:List Form):walk (act.drop i) ps g t=[⟨g,[],[],true⟩]:=by
 rw [xeo h]; unfold walk; rw [if_pos hk]
theorem xd3 (h:i<act.length) (hk:(act.getD i default).Kind=1) (ps g t:List Form):walk (act.drop i) ps g t=walk (act.drop (i+1)) ps (g++[Cc.into (act.getD i default).Form ps]) t++walk (act.drop (i+1+(act.getD i default).Skip.toNat)) ps (g++[Cc.minus (Cc.into (act.getD i default).Form ps)]) t:=by
 rw [xeo h]; conv=>lhs; unfold walk
 rw [if_neg (by omega),if_pos hk,List.drop_drop]
theorem jb (h:i<act.length) (hk:(act.getD i default).Kind=2) (ps g t:List Form):walk (act.drop i) ps g t=walk (act.drop (i+1)) (ps.set (act.getD i default).Pot.toNat (lin (ps.getD (act.getD i default).Pot.toNat Form.nil) (Cc.into (act.getD i default).Form ps) 1)) g t:=by
 rw [xeo h]; conv=>lhs; unfold walk
 rw [if_neg (by omega),if_neg (by omega),if_pos hk]
theorem xd4 (h:i<act.length) (hk:(act.getD i default).Kind=3) (ps g t:List Form):walk (act.drop i) ps g t=walk (act.drop (i+1)) ps g (t++[Cc.into (act.getD i default).Form ps]):=by
 rw [xeo h]; conv=>lhs; unfold walk
 rw [if_neg (by omega),if_neg (by omega),if_neg (by omega)]
end
theorem xcn:∀ (n:Nat) (l:List Line),l.length≤n→∀ (ps g t:List Form),(walk l ps g t).length≤2 ^ n:=by
 intro n
 induction n with
 | zero=>intro l hl ps g t; cases l with|nil=>unfold walk; simp|cons _ _=>simp at hl
 | succ n ih =>
   intro l hl ps g t
   have hp:2 ^ n+2 ^ n=2 ^ (n+1):=by omega
   have h1:1≤2 ^ n:=Nat.one_le_two_pow
   cases l with
   | nil=>unfold walk; simp; omega
   | cons x l =>
     have hl':l.length≤n:=by simpa using hl
     unfold walk
     split
     · simp; omega
     · split
       · rw [List.length_append]
         have a:=ih l hl' ps (g++[into x.Form ps]) t
         have b:=ih (l.drop x.Skip.toNat) (by simp; omega) ps (g++[minus (into x.Form ps)]) t
         omega
       · split
         · have a:=ih l hl' (ps.set x.Pot.toNat (lin (ps.getD x.Pot.toNat Form.nil) (into x.Form ps) 1)) g t
           omega
         · have a:=ih l hl' ps g (t++[into x.Form ps])
           omega
end Cc
end
section
namespace Cc
open Go Go.AM
theorem xq {α:Type} [Inhabited α] {l:List α} {i:Nat} (h:i<l.length):l.take (i+1)=l.take i++[l.getD i default]:=by
 rw [List.take_add_one,List.getElem?_eq_getElem h,List.getD_eq_getElem?_getD,List.getElem?_eq_getElem h]; rfl
theorem xr8:∀ (n:Nat) (l:List Line),l.length≤n→∀ (p q r:Form) (g t:List Form),∀ w∈walk l [p,q,r] g t,w.Guards.length≤g.length+n∧w.Adds.length≤3∧w.Tells.length≤t.length+n:=by
 intro n
 induction n with
 | zero =>
   intro l hl p q r g t w hw
   cases l with
   | cons _ _=>simp at hl
   | nil=>unfold walk at hw; simp only [List.mem_singleton] at hw; subst hw; simp [rowEnd]
 | succ n ih =>
   intro l hl p q r g t w hw
   cases l with
   | nil=>unfold walk at hw; simp only [List.mem_singleton] at hw; subst hw; simp [rowEnd]
   | cons x l =>
     have hl':l.length≤n:=by simpa using hl
     unfold walk at hw
     split at hw
     · simp only [List.mem_singleton] at hw; subst hw; simp
     · split at hw
       · rcases List.mem_append.1 hw with hw|hw
         · have:=ih l hl' p q r _ t w hw
           simp only [List.length_append,List.length_singleton] at this; omega
         · have:=ih (l.drop x.Skip.toNat) (by simp; omega) p q r _ t w hw
           simp only [List.length_append,List.length_singleton] at this; omega
       · split at hw
         · obtain ⟨p',q',r',e⟩:∃ p' q' r',[p,q,r].set x.Pot.toNat (lin ([p,q,r].getD x.Pot.toNat Form.nil) (into x.Form [p,q,r]) 1)=[p',q',r']:=len3 (by simp)
           rw [e] at hw
           have:=ih l hl' p' q' r' g t w hw
           omega
         · have:=ih l hl' p q r g _ w hw
           simp only [List.length_append,List.length_singleton] at this; omega
theorem xa7 {act:List Line} {w:Row} (h:w∈rowsOf act):w.Guards.length≤6∧w.Adds.length≤3∧w.Tells.length≤6:=by
 unfold rowsOf at h
 split at h
 · rename_i ha
   have:=xr8 6 act (y6.1 ha).2.1 _ _ _ [] [] w h
   simpa using this
 · cases h
theorem j8 (act:List Line):(rowsOf act).length≤64:=by
 unfold rowsOf
 split
 · rename_i ha
   have:=xcn 6 act (y6.1 ha).2.1 pots0 [] []
   omega
 · simp
theorem xfp {act:List Line} {w:Row} (h:w∈rowsOf act):shs w.Guards∧shs w.Adds∧shs w.Tells:=by
 have hb:=jj h
 have hl:=xa7 h
 exact ⟨⟨by omega,fun f hf=>(hb.1 f hf).1⟩,⟨by omega,fun f hf=>(hb.2.1 f hf).1⟩,⟨by omega,fun f hf=>(hb.2.2.1 f hf).1⟩⟩
def gAt (acts:List (List Line)) (i k:Nat):List Form:=guardsOf (acts.take i)++((rowsOf (acts.getD i [])).take k).flatMap fun r=>r.Guards
def fAt (acts:List (List Line)) (i k:Nat):List Form:=formsOf (acts.take i)++((rowsOf (acts.getD i [])).take k).flatMap fun r=>r.Adds++r.Tells
theorem xnu {acts:List (List Line)} {i k:Nat} (h:k<(rowsOf (acts.getD i [])).length):gAt acts i (k+1)=gAt acts i k++((rowsOf (acts.getD i [])).getD k default).Guards:=by
 unfold gAt; rw [xq h,List.flatMap_append]; simp
theorem xnv {acts:List (List Line)} {i k:Nat} (h:k<(rowsOf (acts.getD i [])).length):fAt acts i (k+1)=fAt acts i k++(((rowsOf (acts.getD i [])).getD k default).Adds++((rowsOf (acts.getD i [])).getD k default).Tells):=by
 unfold fAt; rw [xq h,List.flatMap_append]; simp
theorem xnw {acts:List (List Line)} {i k:Nat} (hi:i<acts.length) (h:(rowsOf (acts.getD i [])).length≤k):gAt acts i k=gAt acts (i+1) 0:=by
 unfold gAt guardsOf; rw [List.take_of_length_le h]
 have e:acts.take (i+1)=acts.take i++[acts.getD i []]:=xq hi
 rw [e,List.flatMap_append]; simp
theorem xnx {acts:List (List Line)} {i k:Nat} (hi:i<acts.length) (h:(rowsOf (acts.getD i [])).length≤k):fAt acts i k=fAt acts (i+1) 0:=by
 unfold fAt formsOf; rw [List.take_of_length_le h]
 have e:acts.take (i+1)=acts.take i++[acts.getD i []]:=xq hi
 rw [e,List.flatMap_append]; simp
theorem xny {acts:List (List Line)} {i:Nat} (h:acts.length≤i):gAt acts i 0=guardsOf acts:=by unfold gAt; rw [List.take_of_length_le h]; simp
theorem xnz {acts:List (List Line)} {i:Nat} (h:acts.length≤i):fAt acts i 0=formsOf acts:=by unfold fAt; rw [List.take_of_length_le h]; simp
theorem xif (a b:List Form) (v:Nat):reads (a++b) v=(reads a v || reads b v):=by simp [reads]
def pAt (gs:List Form):List (List Int):=gs.foldl addPart [[1,0,0],[0,1,0],[0,0,1]]
theorem xn0 (gs:List Form) (g:Form):pAt (gs++[g])=addPart (pAt gs) g:=by simp [pAt]
theorem xmq (out:List (List Int)) (g:Form):(addPart out g).length≤out.length+1:=by unfold addPart; simp only; split<;>simp
theorem xn1 (gs:List Form):(pAt gs).length≤3+gs.length:=by
 unfold pAt
 have key:∀ (gs:List Form) (o:List (List Int)),(gs.foldl addPart o).length≤o.length+gs.length:=by
  intro gs
  induction gs with
  | nil=>intro o; simp
  | cons g r ih=>intro o; have h1:=ih (addPart o g); have h2:=xmq o g; simp only [List.foldl_cons,List.length_cons]; omega
 have:=key gs [[1,0,0],[0,1,0],[0,0,1]]
 simpa using this
theorem xgs:∀ acts:List (List Line),(guardsOf acts).length≤acts.length*384
 | []=>by simp [guardsOf]
 | a::r=>by
   have ih:=xgs r
   have h1:∀ l:List Row,(∀ w∈l,w.Guards.length≤6)→(l.flatMap fun r=>r.Guards).length≤l.length*6:=by
    intro l
    induction l with
    | nil=>simp
    | cons w l ih=>intro h; have:=ih fun w hw=>h w (List.mem_cons_of_mem _ hw); have:=h w (by simp); simp only [List.flatMap_cons,List.length_append,List.length_cons]; omega
   have h2:=h1 (rowsOf a) fun w hw=>(xa7 hw).1
   have h3:=j8 a
   unfold guardsOf at ih ⊢
   simp only [List.flatMap_cons,List.length_append,List.length_cons]; omega
theorem xc6 (acts:List (List Line)) (i k:Nat):(gAt acts i k).length≤(acts.take i).length*384+384:=by
 have h1:∀ l:List Row,(∀ w∈l,w.Guards.length≤6)→(l.flatMap fun r=>r.Guards).length≤l.length*6:=by
  intro l
  induction l with
  | nil=>simp
  | cons w l ih=>intro h; have:=ih fun w hw=>h w (List.mem_cons_of_mem _ hw); have:=h w (by simp); simp only [List.flatMap_cons,List.length_append,List.length_cons]; omega
 have h2:=h1 ((rowsOf (acts.getD i [])).take k) fun w hw=>(xa7 (List.mem_of_mem_take hw)).1
 have h3:=j8 (acts.getD i [])
 have h4:=xgs (acts.take i)
 have h5:((rowsOf (acts.getD i [])).take k).length≤64:=by rw [List.length_take]; omega
 unfold gAt
 rw [List.length_append]; omega
theorem xuk (c:List Int):(part c).length=c.length:=by simp [part]
theorem xmr {p:List Int} (h:p.length=3):zeros p=decide (p=[0,0,0]):=by
 obtain ⟨a,b,c,rfl⟩:=len3 h
 simp [zeros]
theorem xn2 (out:List (List Int)) (p:List Int):decide (idxOf (fun q=>decide (q=p)) out<0)=!has out p:=by
 have:=zg (fun q=>decide (q=p)) out
 unfold has
 rw [← this]
 by_cases h:idxOf (fun q=>decide (q=p)) out<0
 · simp [h]
 · simp [h,Int.not_lt.1 h]
theorem xpj {out:List (List Int)} {g:Form} (h:g.sh):addPart out g=if (decide (idxOf (fun q=>decide (q=part g.C)) out<0) && !decide (part g.C=[0,0,0]))=true then out++[part g.C] else out:=by
 unfold addPart
 simp only [xn2,xmr (show (part g.C).length=3 from by rw [xuk,h.1])]
 rw [Bool.and_comm]
end Cc
end
section
namespace Cc
open Go Go.AM
set_option maxRecDepth 100000
set_option maxHeartbeats 4000000
def addL:List Int→List Int→Int→List Int
 | a::r,b::s,n=>(a+n*b)::addL r s n
 | l,_,_=>l
abbrev addF (f g:Form) (n:Int):Form:=⟨addL f.C g.C n,addL f.D g.D n,f.K+n*g.K⟩
theorem j9 (l:List Int) (n:Int):addL l [] n=l:=by cases l<;>rfl
theorem jc:∀ (l s:List Int) (n:Int),(addL l s n).length=l.length
 | [],_,_=>by simp [addL]
 | a::r,[],_=>by simp [addL]
 | a::r,b::s,n=>by simp [addL,jc r s n]
theorem xco (n:Int):∀ (l s:List Int) (i:Nat),(addL l (s.take i) n).getD i 0=l.getD i 0
 | [],s,i=>by simp [addL]
 | a::r,s,0=>by simp [addL]
 | a::r,[],i+1=>by simp [addL]
 | a::r,b::s,i+1=>by simpa [addL] using xco n r s i
theorem xa8 (n:Int):∀ (l s:List Int) (i:Nat),i<s.length→i<l.length→(addL l (s.take i) n).set i (l.getD i 0+n*s.getD i 0)=addL l (s.take (i+1)) n
 | [],s,i,_,h=>by simp at h
 | a::r,[],i,h,_=>by simp at h
 | a::r,b::s,0,_,_=>by simp [addL,j9]
 | a::r,b::s,i+1,h,h'=>by
   have:=xa8 n r s i (by simpa using h) (by simpa using h')
   simpa [addL] using this
theorem xcp (n:Int):∀ (l s:List Int),l.length=s.length→addL l s n=List.zipWith (fun x y=>x+n*y) l s
 | [],[],_=>rfl
 | [],_::_,h=>by simp at h
 | _::_,[],h=>by simp at h
 | a::r,b::s,h=>by simp [addL,xcp n r s (by simpa using h)]
theorem xkq (f g:Form) (n:Int) (hf:(∀ x∈f.C,-1000000000000000≤x∧x≤1000000000000000)∧(∀ x∈f.D,-1000000000000000≤x∧x≤1000000000000000) ∧ -1000000000000000≤f.K∧f.K≤1000000000000000)
 (hg:(∀ x∈g.C,-10000000≤x∧x≤10000000)∧(∀ x∈g.D,-10000000≤x∧x≤10000000) ∧ -10000000≤g.K∧g.K≤10000000) (hn : -10000000000≤n∧n≤10000000000) (hC:g.C.length≤f.C.length) (hD:g.D.length≤f.D.length) (h100:f.C.length≤100∧f.D.length≤100) :
 Sem P 317 [(.io 0 0,.agg (aF f)),(.pure,.agg (aF g)),(.pure,I n)] [.agg (aF (addF f g n))] (.tup []):=by
 have p6:=xm hn hg.2.2
 have lgC:=xe g.C
 have lgD:=xe g.D
 refine xd (E:=E0) xb xc (fn:=Go.Proofs.Tryz.f317) (by kernel_rfl) (by kernel_rfl) (fun hb=>?_)
 conv=>whnf
 (repeat' first|((first|refine sN ?_|refine dC ?_|(refine dZ ?_;refine dI ?_)|refine vM ?_|refine vD ?_|refine mS ?_)<;>conv=>whnf))
 refine Vc.loop1 (fun (i:Nat)=>i≤g.C.length) (fun i=>updL [0,2,4,8,9,11,12,31,32,33,34,35,36,37,38,39,40,41,42,43,44,45,46,47,48,49,50,51,52,53,54,55,56,57,58,59,60,61,62] [(13,I i)] [(0,.arr 3 (ints (addL f.C (g.C.take i) n)) false)]) (fun i=>g.C.length - i) 0 (Nat.zero_le _) ?_ (fun i hi=>?_)
 · repeat' (first|exact True.intro|((conv=>whnf);first|exact True.intro|refine ⟨by rfl,?_⟩|refine ⟨by first|omega|(show (_:Int)=_;first|omega|(dsimp only;omega))|exact congrArg ints (j9 _ _).symm|exact congrArg ints (j9 _ _),?_⟩|refine ⟨?_,?_⟩))
 · have hlo:(ints (addL f.C (g.C.take i) n)).length=f.C.length:=by rw [xe,jc]
   have hlo':=jc f.C (g.C.take i) n
   conv=>whnf
   (repeat' first|((first|refine sN ?_|refine dC ?_|(refine dZ ?_;refine dI ?_)|refine vM ?_|refine vD ?_|refine mS ?_)<;>conv=>whnf))
   refine xg (fun gd=>?_) (fun gd=>?_)
   all_goals conv=>whnf
   · have b1:=kj hf.1 (i:=i) (by omega)
     have p:=xm hn (kj hg.1 (i:=i) (by omega))
     have e1:=xco n f.C g.C i
     have e2:=xa8 n f.C g.C i (by omega) (by omega)
     repeat' first|((first|refine sN ?_|refine dC ?_|(refine dZ ?_;refine dI ?_)|refine vM ?_|refine vD ?_|refine mS ?_|(refine xa ?_ ?_<;>intro _)|refine ixN (enc:=rI) 0 (by omega) ?_|refine ioN (by omega) (by omega) ?_|refine rwN (enc:=rI) 0 (by omega) ?_)<;>conv=>whnf)|(refine w64 (by first|omega|(simp only [Int.toNat_natCast]; omega)) (by first|omega|(simp only [Int.toNat_natCast]; omega)) ?_;conv=>whnf)
     refine ⟨i+1,by omega,by simp only; omega,?_⟩
     repeat' (first|exact True.intro|((conv=>whnf);first|exact True.intro|refine ⟨by rfl,?_⟩|refine ⟨by first|omega|(show (_:Int)=_;first|omega|(dsimp only;omega))|exact (by simp only [Int.toNat_natCast]; rw [yr,e1,e2]),?_⟩|refine ⟨?_,?_⟩))
   · have e:i=g.C.length:=by omega
     subst e
     (repeat' first|((first|refine sN ?_|refine dC ?_|(refine dZ ?_;refine dI ?_)|refine vM ?_|refine vD ?_|refine mS ?_)<;>conv=>whnf))
     refine Vc.loop1 (fun (i:Nat)=>i≤g.D.length) (fun i=>updL [0,2,4,32,33,52,53,54,55,56,57,58,59,60,61,62] [(34,I i)] [(1,.arr 3 (ints (addL f.D (g.D.take i) n)) false)]) (fun i=>g.D.length - i) 0 (Nat.zero_le _) ?_ (fun i hi=>?_)
     · repeat' (first|exact True.intro|((conv=>whnf);first|exact True.intro|refine ⟨by rfl,?_⟩|refine ⟨by first|omega|(show (_:Int)=_;first|omega|(dsimp only;omega))|exact congrArg ints (j9 _ _).symm|exact congrArg ints (j9 _ _),?_⟩|refine ⟨?_,?_⟩))
     · have hlo:(ints (addL f.D (g.D.take i) n)).length=f.D.length:=by rw [xe,jc]
       conv=>whnf
       (repeat' first|((first|refine sN ?_|refine dC ?_|(refine dZ ?_;refine dI ?_)|refine vM ?_|refine vD ?_|refine mS ?_)<;>conv=>whnf))
       refine xg (fun gd=>?_) (fun gd=>?_)
       all_goals conv=>whnf
       · have b1:=kj hf.2.1 (i:=i) (by omega)
         have p:=xm hn (kj hg.2.1 (i:=i) (by omega))
         have e1:=xco n f.D g.D i
         have e2:=xa8 n f.D g.D i (by omega) (by omega)
         have hlo':=jc f.D (g.D.take i) n
         repeat' first|((first|refine sN ?_|refine dC ?_|(refine dZ ?_;refine dI ?_)|refine vM ?_|refine vD ?_|refine mS ?_|(refine xa ?_ ?_<;>intro _)|refine ixN (enc:=rI) 0 (by omega) ?_|refine ioN (by omega) (by omega) ?_|refine rwN (enc:=rI) 0 (by omega) ?_)<;>conv=>whnf)|(refine w64 (by first|omega|(simp only [Int.toNat_natCast]; omega)) (by first|omega|(simp only [Int.toNat_natCast]; omega)) ?_;conv=>whnf)
         refine ⟨i+1,by omega,by simp only; omega,?_⟩
         repeat' (first|exact True.intro|((conv=>whnf);first|exact True.intro|refine ⟨by rfl,?_⟩|refine ⟨by first|omega|(show (_:Int)=_;first|omega|(dsimp only;omega))|exact (by simp only [Int.toNat_natCast]; rw [yr,e1,e2]),?_⟩|refine ⟨?_,?_⟩))
       · have e:i=g.D.length:=by omega
         subst e
         repeat' first|((first|refine sN ?_|refine dC ?_|(refine dZ ?_;refine dI ?_)|refine vM ?_|refine vD ?_|refine mS ?_|(refine xa ?_ ?_<;>intro _)|refine w64 (by omega) (by omega) ?_)<;>conv=>whnf)
         exact ⟨rfl,by simp only [List.take_length]⟩
theorem xam {f g:Form} (e:f=g) (h:g.ok=true):Sem P 318 [(.pure,.agg (aF f))] [] (.agg (eF g)):=by
 subst e
 refine xd (E:=E0) xb xc (fn:=Go.Proofs.Tryz.f318) (by kernel_rfl) (by kernel_rfl) (fun hb=>?_)
 conv=>whnf
 repeat' first|((first|refine sN ?_|refine dC ?_|(refine dZ ?_;refine dI ?_)|refine vM ?_|refine vD ?_|refine mS ?_|(refine xa ?_ ?_<;>intro _)|refine ⟨_,qo f,?_⟩)<;>conv=>whnf)
 · rename_i h'; rw [h] at h'; cases h'
 · exact ⟨rfl,rfl⟩
def wide (f:Form):Prop:=f.sh∧(∀ x∈f.C,-1000000000000000≤x∧x≤1000000000000000)∧(∀ x∈f.D,-1000000000000000≤x∧x≤1000000000000000) ∧ -1000000000000000≤f.K∧f.K≤1000000000000000
theorem addS (f g:Form) (n:Int) (hf:wide f) (hg:g.bd 10000000) (hn : -10000000000≤n∧n≤10000000000):Sem P 317 [(.io 0 0,.agg (aF f)),(.pure,.agg (aF g)),(.pure,I n)] [.agg (aF (addF f g n))] (.tup []) :=
 xkq f g n hf.2 hg.2 hn (by rw [hf.1.1,hg.1.1]; exact Nat.le_refl _) (by rw [hf.1.2,hg.1.2]; exact Nat.le_refl _) (by rw [hf.1.1,hf.1.2]; decide)
theorem xd5:wide Form.zero:=⟨⟨rfl,rfl⟩,by simp [Form.zero],by simp [Form.zero],by decide,by decide⟩
theorem va {f g:Form} {n:Int} (hf:f.sh) (hg:g.sh):addF f g n=lin f g n:=by
 simp only [addF,lin]
 rw [xcp n _ _ (by rw [hf.1,hg.1]),xcp n _ _ (by rw [hf.2,hg.2])]
theorem xep {f:Form} {m:Int} (h:f.bd m) (hm:m≤1000000000000000):wide f:=by
 have h:=xi h hm
 exact ⟨h.1,h.2.1,h.2.2.1,h.2.2.2⟩
theorem wu (a:Form) (n:Int) (ha:a.bd 10000000) (hn : -10000000≤n∧n≤10000000) (hk:(lin Form.zero a n).ok=true):Sem P 305 [(.pure,.agg (aF a)),(.pure,I n)] [] (.agg (eF (lin Form.zero a n))):=by
 have e1:addF Form.zero a n=lin Form.zero a n:=va ⟨rfl,rfl⟩ ha.1
 have ok1:=zk.2 ha
 have in1:inB n (-10000000) 10000000=true:=xf.2 hn
 refine xd (E:={ E0 with keep:=[4000],fz:=[(5,[320160,320161])] }) xb xc (fn:=Go.Proofs.Tryz.f305) (by kernel_rfl) (by kernel_rfl) (fun hb=>?_)
 conv=>whnf
 repeat' first|((first|refine sN ?_|refine dC ?_|(refine dZ ?_;refine dI ?_)|refine vM ?_|refine vD ?_|refine mS ?_|(refine xa ?_ ?_<;>intro _)|refine ⟨_,qo a,?_⟩|refine ⟨_,yd _ _ _,?_⟩|refine ⟨_,v7,?_⟩|refine ⟨_,_,addS Form.zero a n xd5 ha (by omega),?_⟩|refine ⟨_,xam e1 hk,?_⟩)<;>conv=>whnf)
 all_goals first
  | exact ⟨rfl,rfl⟩
  | (exfalso; simp_all; done)
theorem qu (a b:Form) (ha:a.bd 10000000) (hb':b.bd 10000000) (hk:(lin a b 1).ok=true):Sem P 306 [(.pure,.agg (aF a)),(.pure,.agg (aF b))] [] (.agg (eF (lin a b 1))):=by
 have e0:addF Form.zero a 1=a:=by rw [va ⟨rfl,rfl⟩ ha.1,lin1 ha.1]
 have e1:addF (addF Form.zero a 1) b 1=lin a b 1:=by rw [e0]; exact va ha.1 hb'.1
 have w1:wide (addF Form.zero a 1):=by rw [e0]; exact xep ha (by decide)
 have ok1:=zk.2 ha
 have ok2:=zk.2 hb'
 refine xd (E:={ E0 with keep:=[4000],fz:=[(6,[384096,384097])] }) xb xc (fn:=Go.Proofs.Tryz.f306) (by kernel_rfl) (by kernel_rfl) (fun hb=>?_)
 conv=>whnf
 repeat' first|((first|refine sN ?_|refine dC ?_|(refine dZ ?_;refine dI ?_)|refine vM ?_|refine vD ?_|refine mS ?_|(refine xa ?_ ?_<;>intro _)|refine ⟨_,qo a,?_⟩|refine ⟨_,qo b,?_⟩|refine ⟨_,v7,?_⟩|refine ⟨_,_,addS Form.zero a 1 xd5 ha (by decide),?_⟩|refine ⟨_,_,addS (addF Form.zero a 1) b 1 w1 hb' (by decide),?_⟩|refine ⟨_,xam e1 hk,?_⟩)<;>conv=>whnf)
 all_goals first
  | exact ⟨rfl,rfl⟩
  | (exfalso; simp_all; done)
theorem xw7 (f:Form):Sem P 316 [(.pure,.agg (aF f))] [] (B (!f.ok)):=by
 refine xd (E:=E0) xb xc (fn:=Go.Proofs.Tryz.f316) (by kernel_rfl) (by kernel_rfl) (fun hb=>?_)
 conv=>whnf
 repeat' first|((first|refine sN ?_|refine dC ?_|(refine dZ ?_;refine dI ?_)|refine vM ?_|refine vD ?_|refine mS ?_|(refine xa ?_ ?_<;>intro _)|refine ⟨_,qo f,?_⟩)<;>conv=>whnf)
 exact ⟨rfl,rfl⟩
theorem xkr  (l:List Form):Sem P 287 [(.pure,.one (sFs l)),(.pure,.one (.fn 316 []))] [] (I (idxOf (fun (x:Form)=>!x.ok) l)):=by
 refine xd (E:=E0) xb xc (fn:=Go.Proofs.Tryz.f287) (by kernel_rfl) (by kernel_rfl) (fun hb=>?_)
 have la:(l.map eF).length=l.length:=List.length_map ..
 have hb1:(l.map eF).length≤1125899906842624:=hb.1.1
 conv=>whnf
 (repeat' first|((first|refine sN ?_|refine dC ?_|(refine dZ ?_;refine dI ?_)|refine vM ?_|refine vD ?_|refine mS ?_)<;>conv=>whnf))
 refine Vc.loop { i:Nat // ∀ j,j<i→j<l.length→(fun (x:Form)=>!x.ok) (l.getD j default)=false } (fun i=>updL [0,1,7] [(8,I i.1)] []) (fun i=>l.length - i.1) ⟨0,by simp⟩ ?_ (fun i=>?_)
 · exact wl
 · have hi:=i.2
   conv=>whnf
   (repeat' first|((first|refine sN ?_|refine dC ?_|(refine dZ ?_;refine dI ?_)|refine vM ?_|refine vD ?_|refine mS ?_)<;>conv=>whnf))
   refine xg (fun g=>?_) (fun g=>?_)
   all_goals conv=>whnf
   · repeat' first|((first|refine sN ?_|refine dC ?_|(refine dZ ?_;refine dI ?_)|refine vM ?_|refine vD ?_|refine mS ?_|(refine xa ?_ ?_<;>intro _)|refine ixN (enc:=eF) default (by omega) ?_|refine ⟨_,xw7 _,?_⟩|refine w64 (by omega) (by omega) ?_)<;>conv=>whnf)
     · rename_i h
       exact rI' (y9 (p:=fun (x:Form)=>!x.ok) default (by omega) h fun j hj=>hi j hj (by omega)).symm
     · rename_i h
       refine ⟨⟨i.1+1,fun j hj hl=>?_⟩,?_,?_⟩
       · by_cases hji:j<i.1
         · exact hi j hji hl
         · obtain rfl:j=i.1:=by omega
           exact h
       · simp only; omega
       · exact wl
   · (repeat' first|((first|refine sN ?_|refine dC ?_|(refine dZ ?_;refine dI ?_)|refine vM ?_|refine vD ?_|refine mS ?_)<;>conv=>whnf))
     exact rI' (yq (p:=fun (x:Form)=>!x.ok) default fun j hj=>hi j (by omega) hj).symm
theorem xr9  (l:List Form):Sem P 247 [(.pure,.one (sFs l)),(.pure,.one (.fn 316 []))] [] (B (l.any fun (x:Form)=>!x.ok)):=by
 refine xd (E:=E0) xb xc (fn:=Go.Proofs.Tryz.f247) (by kernel_rfl) (by kernel_rfl) (fun hb=>?_)
 conv=>whnf
 repeat' first|((first|refine sN ?_|refine dC ?_|(refine dZ ?_;refine dI ?_)|refine vM ?_|refine vD ?_|refine mS ?_|(refine xa ?_ ?_<;>intro _)|refine ⟨_,xkr  l,?_⟩)<;>conv=>whnf)
 exact rB (zg _ _)
abbrev intoN (a b c:Int) (p q r:Form):Nat→Form
 | 0=>Form.zero
 | 1=>addF Form.zero p a
 | 2=>addF (addF Form.zero p a) q b
 | _=>addF (addF (addF Form.zero p a) q b) r c
theorem xd6 (f p q r:Form) (hf:f.bd 10000000) (hp:p.bd 10000000) (hq:q.bd 10000000) (hr:r.bd 10000000) (hk:(into f [p,q,r]).ok=true):Sem P 304 [(.pure,.agg (aF f)),(.pure,.one (sFs [p,q,r]))] [] (.agg (eF (into f [p,q,r]))):=by
 have okf:=zk.2 hf
 have okp:=zk.2 hp
 have okq:=zk.2 hq
 have okr:=zk.2 hr
 obtain ⟨a,b,c,d,e,k,rfl,h1,h2,h3,h4,h5,h6⟩:=bdE hf
 have b1:(lin Form.zero p a).bd 100000000000000:=xi (yw (m:=0) xb1 hp h1) (by decide)
 have e1:addF Form.zero p a=lin Form.zero p a:=va ⟨rfl,rfl⟩ hp.1
 have b2:(lin (lin Form.zero p a) q b).bd 200000000000000:=xi (yw b1 hq h2) (by decide)
 have e2:addF (addF Form.zero p a) q b=lin (lin Form.zero p a) q b:=by rw [e1]; exact va b1.1 hq.1
 have b3:(lin (lin (lin Form.zero p a) q b) r c).bd 300000000000000:=xi (yw b2 hr h3) (by decide)
 have e3:addF (addF (addF Form.zero p a) q b) r c=lin (lin (lin Form.zero p a) q b) r c:=by rw [e2]; exact va b2.1 hr.1
 have w1:wide (addF Form.zero p a):=by rw [e1]; exact xep b1 (by decide)
 have w2:wide (addF (addF Form.zero p a) q b):=by rw [e2]; exact xep b2 (by decide)
 have w3:wide (addF (addF (addF Form.zero p a) q b) r c):=by rw [e3]; exact xep b3 (by decide)
 have eL:addF (addF (addF (addF Form.zero p a) q b) r c) ⟨[],[d,e],k⟩ 1=into ⟨[a,b,c],[d,e],k⟩ [p,q,r]:=by
  rw [e3,xho]
  obtain ⟨p1,p2,p3,p4,p5,p6,rfl,_⟩:=bdE hp
  obtain ⟨q1,q2,q3,q4,q5,q6,rfl,_⟩:=bdE hq
  obtain ⟨r1,r2,r3,r4,r5,r6,rfl,_⟩:=bdE hr
  simp only [addF,addL,lin,Form.zero,List.zipWith_cons_cons,List.zipWith_nil_right,Form.mk.injEq,List.cons.injEq,and_true,true_and]
  omega
 refine xd (E:={ E0 with keep:=[4000],fz:=[(10,[640352,640353])] }) xb xc (fn:=Go.Proofs.Tryz.f304) (by kernel_rfl) (by kernel_rfl) (fun hb=>?_)
 conv=>whnf
 repeat' first|((first|refine sN ?_|refine dC ?_|(refine dZ ?_;refine dI ?_)|refine vM ?_|refine vD ?_|refine mS ?_|(refine xa ?_ ?_<;>intro _)|refine ⟨_,qo ⟨[a,b,c],[d,e],k⟩,?_⟩|refine ⟨_,xr9 [p,q,r],?_⟩|refine ⟨_,v7,?_⟩)<;>conv=>whnf)
 all_goals first
  | (exfalso; simp_all; done)
  | skip
 refine Vc.loop1 (fun (i:Nat)=>i≤3) (fun i=>updL [2,4,5,22,23,37,38,39,40,41,43,44] [(24,I i)] [(256064,.box [.ref 256000,.ref 256001,eI (intoN a b c p q r i).K]),(256000,.arr 3 (ints (intoN a b c p q r i).C) false),(256001,.arr 3 (ints (intoN a b c p q r i).D) false)]) (fun i=>3 - i) 0 (by omega) ?_ (fun i hi=>?_)
 · exact wk
 · match i,hi with
   | 0,_ =>
     conv=>whnf
     repeat' first|((first|refine sN ?_|refine dC ?_|(refine dZ ?_;refine dI ?_)|refine vM ?_|refine vD ?_|refine mS ?_|(refine xa ?_ ?_<;>intro _)|refine ixK rfl ?_|refine w64 (by omega) (by omega) ?_|refine ⟨_,_,addS Form.zero p a xd5 hp (by omega),?_⟩)<;>conv=>whnf)
     refine ⟨1,by omega,by simp only; omega,?_⟩
     exact wk
   | 1,_ =>
     conv=>whnf
     repeat' first|((first|refine sN ?_|refine dC ?_|(refine dZ ?_;refine dI ?_)|refine vM ?_|refine vD ?_|refine mS ?_|(refine xa ?_ ?_<;>intro _)|refine ixK rfl ?_|refine w64 (by omega) (by omega) ?_|refine ⟨_,_,addS (addF Form.zero p a) q b w1 hq (by omega),?_⟩)<;>conv=>whnf)
     refine ⟨2,by omega,by simp only; omega,?_⟩
     exact wk
   | 2,_ =>
     conv=>whnf
     repeat' first|((first|refine sN ?_|refine dC ?_|(refine dZ ?_;refine dI ?_)|refine vM ?_|refine vD ?_|refine mS ?_|(refine xa ?_ ?_<;>intro _)|refine ixK rfl ?_|refine w64 (by omega) (by omega) ?_|refine ⟨_,_,addS (addF (addF Form.zero p a) q b) r c w2 hr (by omega),?_⟩)<;>conv=>whnf)
     refine ⟨3,by omega,by simp only; omega,?_⟩
     exact wk
   | 3,_ =>
     conv=>whnf
     repeat' first|((first|refine sN ?_|refine dC ?_|(refine dZ ?_;refine dI ?_)|refine vM ?_|refine vD ?_|refine mS ?_|(refine xa ?_ ?_<;>intro _))<;>conv=>whnf)|(refine ⟨_,_,xkq (addF (addF (addF Form.zero p a) q b) r c) ⟨[],[d,e],k⟩ 1 w3.2 ⟨by simp,hf.2.2.1,hf.2.2.2⟩ (by decide) (by simp) (by rw [w3.1.2]; exact Nat.le_refl _) (by rw [w3.1.1,w3.1.2]; decide),?_⟩;conv=>whnf)|((first|refine ⟨_,xam eL hk,?_⟩)<;>conv=>whnf)
     exact ⟨rfl,rfl⟩
end Cc
end
section
namespace Cc
open Go Go.AM
set_option maxRecDepth 100000
set_option maxHeartbeats 8000000
theorem xhs {p f:Form} (hp:p.sh) (hf:f.sh):lin p (lin Form.zero f (-1)) 1=lin p f (-1):=by
 obtain ⟨C,D,K⟩:=p
 obtain ⟨C',D',K'⟩:=f
 obtain ⟨a,b,c,rfl⟩:=len3 hp.1
 obtain ⟨d,e,rfl⟩:=len2 hp.2
 obtain ⟨a',b',c',rfl⟩:=len3 hf.1
 obtain ⟨d',e',rfl⟩:=len2 hf.2
 simp [lin,Form.zero]
theorem xsa (act:List Line) (h6:act.length≤6) (hok:∀ x∈act,x.ok=true):∀ (n i:Nat),act.length - i<n→i≤100→∀ (p q r:Form) (g t:List Form),Wk act i p q r g t→∀ (rs:List (List AV)),rs.length+(walk (act.drop i) [p,q,r] g t).length≤1000 →
 ∀ (j:Int) (rp rg rt:List (List AV)),j=i→rp=[p,q,r].map eF→rg=g.map eF→rt=t.map eF →
 Sem P 279 [(.io 0 0,.agg [fLs act,.sl 200 rs]),(.pure,I j),(.own,.one (.sl 115 rg)),(.own,.one (.sl 115 rp)),(.own,.one (.sl 115 rt))]
  [.agg [fLs act,.sl 200 (rs++(walk (act.drop i) [p,q,r] g t).map eW)]] (.tup []):=by
 intro n
 induction n with
 | zero=>intro i h; omega
 | succ n ih =>
   intro i0 hn h100 p0 q0 r0 g0 t0 hw0 rs hrs j rp rg rt rfl rfl rfl rfl
   refine xd (E:={ E0 with keep:=[9004,9009,9011,12001,15001,18001],fz:=[(1000000,[128,192,256]),(1,[768064,768256,960064,1152064,1152256]),(24,[1216386])] }) xb xc (fn:=Go.Proofs.Tryz.f279) (by kernel_rfl) (by kernel_rfl) (fun hb=>?_)
   have la:(act.map eL).length=act.length:=List.length_map ..
   conv=>whnf
   (repeat' first|((first|refine sN ?_|refine dC ?_|(refine dZ ?_;refine dI ?_)|refine vM ?_|refine vD ?_|refine mS ?_)<;>conv=>whnf))
   refine Vc.loop6 (fun (i:Nat) (ps g t:List Form) (d:List Row) (_:Unit)=>∃ p q r,ps=[p,q,r]∧i≤100∧act.length - i<n+1∧Wk act i p q r g t∧d++walk (act.drop i) [p,q,r] g t=walk (act.drop i0) [p0,q0,r0] g0 t0)
    (fun i ps g t d _=>updL [0,13,14,15,105,106,107,108,109,110,111,112,113,114,115,116,117,118,119,120,121,122,123,124,125,126,127,128,129,130,131,132,133,134,135,136,137] [(1,I i),(2,.one (fFs g)),(3,.one (fFs ps)),(4,.one (fFs t))] [(63,.box [fLs act,.ref 1]),(1,.arr 200 (rs++d.map eW) false)]) (fun i _ _ _ _ _=>act.length - i) i0 [p0,q0,r0] g0 t0 [] () ⟨p0,q0,r0,rfl,h100,hn,hw0,rfl⟩ ?_ (fun i ps g t d _ hs=>?_)
   · repeat' (first|exact True.intro|((conv=>whnf);first|exact True.intro|refine ⟨by rfl,?_⟩|refine ⟨by first|omega|(show (_:Int)=_;first|omega|(dsimp only;omega))|exact by simp,?_⟩|refine ⟨?_,?_⟩))
   · obtain ⟨p,q,r,rfl,h100',hn',w,hW⟩:=hs
     have wp:=w.pots
     have wl:=w.lists
     have m7:∀ {f:Form},f.bd 1000000→f.bd 10000000:=fun h=>xi h (by decide)
     have m8:∀ {f:Form},f.bd 588246→f.bd 10000000:=fun h=>xi h (by decide)
     have sg:shs g:=⟨by have:=wl.1.1; omega,fun f hf=>(wl.1.2 f hf).1⟩
     have st:shs t:=⟨by have:=wl.2.1; omega,fun f hf=>(wl.2.2 f hf).1⟩
     have sps:shs [p,q,r]:=⟨by simp,by simp only [List.mem_cons,List.not_mem_nil,or_false]; rintro f (rfl|rfl|rfl); exact wp.1.1; exact wp.2.1.1; exact wp.2.2.1⟩
     have hln:=congrArg List.length hW
     rw [List.length_append] at hln
     conv=>whnf
     (repeat' first|((first|refine sN ?_|refine dC ?_|(refine dZ ?_;refine dI ?_)|refine vM ?_|refine vD ?_|refine mS ?_)<;>conv=>whnf))
     refine xg (fun gd=>?_) (fun gd=>?_)
     all_goals conv=>whnf
     · have hil:i<act.length:=by omega
       have hx:=hok (act.getD i default) (xx hil)
       by_cases h4:(act.getD i default).Kind=4
       · rw [xd2 hil h4] at hln
         repeat' first|((first|refine sN ?_|refine dC ?_|(refine dZ ?_;refine dI ?_)|refine vM ?_|refine vD ?_|refine mS ?_|(refine xa ?_ ?_<;>intro _)|refine ixN (enc:=eL) default hil ?_|refine ⟨_,yo g sg,?_⟩)<;>conv=>whnf)|(refine apN (by simp only [List.length_append,List.length_map,List.length_cons,List.length_nil] at hln ⊢; omega) ?_;conv=>whnf)
         · exact ⟨rfl,by rw [← hW,xd2 hil h4]; simp⟩
         all_goals (exfalso; simp_all; done)
       · have hs:=js hx h4
         have wi:=w.into hil hs
         have wm:=w.minus hil hs
         have fb:(act.getD i default).Form.bd 10000000:=(yx hs).1
         rcases xa4 hx with hk|hk|hk|hk
         · have hsk:=xa3 hx hk
           rw [xd3 hil hk,List.length_append] at hln
           have ihy:=ih (i+1) (by omega) (by omega) p q r (g++[into (act.getD i default).Form [p,q,r]]) t (w.on hil hs (by omega) (.inr ⟨_,wi,rfl⟩) (.inl rfl)) (rs++d.map eW) (by simp only [List.length_append,List.length_map]; omega)
           have b1:=yw (k:=1) xb1 wi (n := -1) (by decide)
           have hK:=b1.2.2.2
           have es:((i+1+(act.getD i default).Skip.toNat:Nat):Int)=i+(act.getD i default).Skip+1:=by omega
           repeat' first|((first|refine sN ?_|refine dC ?_|(refine dZ ?_;refine dI ?_)|refine vM ?_|refine vD ?_|refine mS ?_|(refine xa ?_ ?_<;>intro _)|refine ixN (enc:=eL) default hil ?_|refine ⟨_,xd6 (act.getD i default).Form p q r fb (m7 wp.1) (m7 wp.2.1) (m7 wp.2.2) (zk.2 (m8 wi)),?_⟩|refine ⟨_,yo g sg,?_⟩|refine ⟨_,yo t st,?_⟩|refine ⟨_,yo [p,q,r] sps,?_⟩|refine w64 (by omega) (by omega) ?_|refine ⟨_,_,ihy _ _ _ _ (by omega) rfl (by simp) rfl,?_⟩|refine ⟨_,wu (into (act.getD i default).Form [p,q,r]) (-1) (m8 wi) (by decide) (xen b1 (by decide)),?_⟩)<;>conv=>whnf)|(refine apN (by first|(simp only [List.length_map]; omega)|(simp; omega)|(exfalso; simp_all; done)) ?_;conv=>whnf)
           all_goals first
            | (exfalso; simp_all; done)
            | skip
           refine ⟨i+1+(act.getD i default).Skip.toNat,[p,q,r],g++[minus (into (act.getD i default).Form [p,q,r])],t,d++walk (act.drop (i+1)) [p,q,r] (g++[into (act.getD i default).Form [p,q,r]]) t,(),⟨p,q,r,rfl,by omega,by omega,w.on hil hs (by omega) (.inr ⟨_,wm,rfl⟩) (.inl rfl),by rw [← hW,xd3 hil hk,List.append_assoc]⟩,show act.length - (i+1+(act.getD i default).Skip.toNat)<act.length - i from by omega,?_⟩
           repeat' (first|exact True.intro|((conv=>whnf);first|exact True.intro|refine ⟨by rfl,?_⟩|refine ⟨by first|omega|(show (_:Int)=_;first|omega|(dsimp only;omega))|exact (List.map_append (f:=eF) (l₁:=g) (l₂:=[minus (into (act.getD i default).Form [p,q,r])])).symm|exact es.symm|exact by simp,?_⟩|refine ⟨?_,?_⟩))
         · obtain ⟨hp0,hp2⟩:=j5 hx hk
           rw [jb hil hk] at hln
           have ok1:∀ {x:Form},(x=p∨x=q∨x=r)→(lin x (into (act.getD i default).Form [p,q,r]) 1).ok=true:=fun h=>xen (w.sum hil hs h) (by decide)
           have hpot:(act.getD i default).Pot=0∨(act.getD i default).Pot=1∨(act.getD i default).Pot=2:=by omega
           rcases hpot with hpot|hpot|hpot
           all_goals repeat' first|((first|refine sN ?_|refine dC ?_|(refine dZ ?_;refine dI ?_)|refine vM ?_|refine vD ?_|refine mS ?_|(refine xa ?_ ?_<;>intro _)|refine ixN (enc:=eL) default hil ?_|refine ⟨_,xd6 (act.getD i default).Form p q r fb (m7 wp.1) (m7 wp.2.1) (m7 wp.2.2) (zk.2 (m8 wi)),?_⟩|refine ⟨_,yo g sg,?_⟩|refine ⟨_,yo t st,?_⟩|refine ⟨_,yo [p,q,r] sps,?_⟩|refine w64 (by omega) (by omega) ?_|refine ⟨_,qu p (into (act.getD i default).Form [p,q,r]) (m7 wp.1) (m8 wi) (ok1 (.inl rfl)),?_⟩|refine ⟨_,qu q (into (act.getD i default).Form [p,q,r]) (m7 wp.2.1) (m8 wi) (ok1 (.inr (.inl rfl))),?_⟩|refine ⟨_,qu r (into (act.getD i default).Form [p,q,r]) (m7 wp.2.2) (m8 wi) (ok1 (.inr (.inr rfl))),?_⟩)<;>conv=>whnf)|((rw [hpot];conv=>whnf))|((first|refine ioN (by decide) (by simp) ?_|refine rwC rfl ?_)<;>conv=>whnf)
           all_goals first
            | (exfalso; simp_all; done)
            | skip
           · refine ⟨i+1,[lin p (into (act.getD i default).Form [p,q,r]) 1,q,r],g,t,d,(),⟨_,_,_,rfl,by omega,by omega,w.add hil hs (.inr rfl) (.inl rfl) (.inl rfl),by rw [← hW,jb hil hk,hpot]; rfl⟩,show act.length - (i+1)<act.length - i from by omega,?_⟩
             exact wk
           · refine ⟨i+1,[p,lin q (into (act.getD i default).Form [p,q,r]) 1,r],g,t,d,(),⟨_,_,_,rfl,by omega,by omega,w.add hil hs (.inl rfl) (.inr rfl) (.inl rfl),by rw [← hW,jb hil hk,hpot]; rfl⟩,show act.length - (i+1)<act.length - i from by omega,?_⟩
             exact wk
           · refine ⟨i+1,[p,q,lin r (into (act.getD i default).Form [p,q,r]) 1],g,t,d,(),⟨_,_,_,rfl,by omega,by omega,w.add hil hs (.inl rfl) (.inl rfl) (.inr rfl),by rw [← hW,jb hil hk,hpot]; rfl⟩,show act.length - (i+1)<act.length - i from by omega,?_⟩
             exact wk
         · rw [xd4 hil hk] at hln
           repeat' first|((first|refine sN ?_|refine dC ?_|(refine dZ ?_;refine dI ?_)|refine vM ?_|refine vD ?_|refine mS ?_|(refine xa ?_ ?_<;>intro _)|refine ixN (enc:=eL) default hil ?_|refine ⟨_,xd6 (act.getD i default).Form p q r fb (m7 wp.1) (m7 wp.2.1) (m7 wp.2.2) (zk.2 (m8 wi)),?_⟩|refine ⟨_,yo g sg,?_⟩|refine ⟨_,yo t st,?_⟩|refine ⟨_,yo [p,q,r] sps,?_⟩|refine w64 (by omega) (by omega) ?_)<;>conv=>whnf)|(refine apN (by first|(simp only [List.length_map]; omega)|(simp; omega)|(exfalso; simp_all; done)) ?_;conv=>whnf)
           all_goals first
            | (exfalso; simp_all; done)
            | skip
           refine ⟨i+1,[p,q,r],g,t++[into (act.getD i default).Form [p,q,r]],d,(),⟨_,_,_,rfl,by omega,by omega,w.on hil hs (by omega) (.inl rfl) (.inr ⟨_,wi,rfl⟩),by rw [← hW,xd4 hil hk]⟩,show act.length - (i+1)<act.length - i from by omega,?_⟩
           repeat' (first|exact True.intro|((conv=>whnf);first|exact True.intro|refine ⟨by rfl,?_⟩|refine ⟨by first|omega|(show (_:Int)=_;first|omega|(dsimp only;omega))|exact (List.map_append (f:=eF) (l₁:=t) (l₂:=[into (act.getD i default).Form [p,q,r]])).symm,?_⟩|refine ⟨?_,?_⟩))
         · exact absurd hk h4
     · repeat' first|((first|refine sN ?_|refine dC ?_|(refine dZ ?_;refine dI ?_)|refine vM ?_|refine vD ?_|refine mS ?_|(refine xa ?_ ?_<;>intro _)|refine ⟨_,yo g sg,?_⟩|refine ⟨_,yo t st,?_⟩)<;>conv=>whnf)
       have oz:∀ v,(lin Form.zero (Form.pot v) (-1)).bd 1:=fun v=>xi (yw (k:=1) xb1 (z7 v) (by decide)) (by decide)
       have pz:∀ v,(Form.pot v).bd 10000000:=fun v=>xi (z7 v) (by decide)
       have oa:∀ {x:Form} (v:Nat),x.bd 1000000→(lin x (lin Form.zero (Form.pot v) (-1)) 1).ok=true:=fun v h=>xen (yw (k:=1) h (oz v) (by decide)) (by decide)
       rw [xkp (by omega)] at hln hW
       refine Vc.loop1 (fun (v:Nat)=>v≤3) (fun v=>updL [0,13,110,111,128,129,130,131,132,133,134,135,136,137] [(112,I v)] [(1216320,.box [fFs g,.ref 1216386,fFs t,eB false]),(1216386,.arr 115 (([lin p (lin Form.zero (Form.pot 0) (-1)) 1,lin q (lin Form.zero (Form.pot 1) (-1)) 1,lin r (lin Form.zero (Form.pot 2) (-1)) 1].take v).map eF) false)]) (fun v=>3 - v) 0 (by omega) ?_ (fun v hv=>?_)
       · exact wk
       · match v,hv with
         | 0,_ =>
           conv=>whnf
           repeat' first|((first|refine sN ?_|refine dC ?_|(refine dZ ?_;refine dI ?_)|refine vM ?_|refine vD ?_|refine mS ?_|(refine xa ?_ ?_<;>intro _)|refine ixK rfl ?_|refine w64 (by omega) (by omega) ?_|refine ⟨_,qq 0 (by decide),?_⟩|refine ⟨_,wu (Form.pot 0) (-1) (pz _) (by decide) (xen (oz _) (by decide)),?_⟩|refine ⟨_,qu p (lin Form.zero (Form.pot 0) (-1)) (m7 wp.1) (xi (oz _) (by decide)) (oa _ wp.1),?_⟩|refine apN (by simp) ?_)<;>conv=>whnf)
           refine ⟨1,by omega,by simp only; omega,?_⟩
           exact wk
         | 1,_ =>
           conv=>whnf
           repeat' first|((first|refine sN ?_|refine dC ?_|(refine dZ ?_;refine dI ?_)|refine vM ?_|refine vD ?_|refine mS ?_|(refine xa ?_ ?_<;>intro _)|refine ixK rfl ?_|refine w64 (by omega) (by omega) ?_|refine ⟨_,qq 1 (by decide),?_⟩|refine ⟨_,wu (Form.pot 1) (-1) (pz _) (by decide) (xen (oz _) (by decide)),?_⟩|refine ⟨_,qu q (lin Form.zero (Form.pot 1) (-1)) (m7 wp.2.1) (xi (oz _) (by decide)) (oa _ wp.2.1),?_⟩|refine apN (by simp) ?_)<;>conv=>whnf)
           refine ⟨2,by omega,by simp only; omega,?_⟩
           exact wk
         | 2,_ =>
           conv=>whnf
           repeat' first|((first|refine sN ?_|refine dC ?_|(refine dZ ?_;refine dI ?_)|refine vM ?_|refine vD ?_|refine mS ?_|(refine xa ?_ ?_<;>intro _)|refine ixK rfl ?_|refine w64 (by omega) (by omega) ?_|refine ⟨_,qq 2 (by decide),?_⟩|refine ⟨_,wu (Form.pot 2) (-1) (pz _) (by decide) (xen (oz _) (by decide)),?_⟩|refine ⟨_,qu r (lin Form.zero (Form.pot 2) (-1)) (m7 wp.2.2) (xi (oz _) (by decide)) (oa _ wp.2.2),?_⟩|refine apN (by simp) ?_)<;>conv=>whnf)
           refine ⟨3,by omega,by simp only; omega,?_⟩
           exact wk
         | 3,_ =>
           conv=>whnf
           repeat' first|((first|refine sN ?_|refine dC ?_|(refine dZ ?_;refine dI ?_)|refine vM ?_|refine vD ?_|refine mS ?_|(refine xa ?_ ?_<;>intro _))<;>conv=>whnf)|(refine apN (by simp at hln ⊢; omega) ?_;conv=>whnf)
           have er:rowEnd [p,q,r] g t=⟨g,[lin p (lin Form.zero (Form.pot 0) (-1)) 1,lin q (lin Form.zero (Form.pot 1) (-1)) 1,lin r (lin Form.zero (Form.pot 2) (-1)) 1],t,false⟩:=by
            rw [xhs wp.1.1 (z7 0).1,xhs wp.2.1.1 (z7 1).1,xhs wp.2.2.1 (z7 2).1]; rfl
           refine ⟨rfl,?_⟩
           rw [← hW,er,List.map_append,← List.append_assoc]
           rfl
theorem xe9 (act:List Line):Sem P 237 [(.pure,.one (sLs act))] [] (.one (sWs (rowsOf act))):=by
 by_cases ha:actOk act=true
 · obtain ⟨hok,h6,_⟩:=y6.1 ha
   have hl:=xcn 6 (act.drop 0) (by simpa using h6) [Form.pot 0,Form.pot 1,Form.pot 2] [] []
   have hw:=xsa act h6 hok 7 0 (by omega) (by decide) (Form.pot 0) (Form.pot 1) (Form.pot 2) [] [] (Wk.start h6) [] (by simp only [List.length_nil]; omega)
   refine xd (E:=E0) xb xc (fn:=Go.Proofs.Tryz.f237) (by kernel_rfl) (by kernel_rfl) (fun hb=>?_)
   conv=>whnf
   repeat' first|((first|refine sN ?_|refine dC ?_|(refine dZ ?_;refine dI ?_)|refine vM ?_|refine vD ?_|refine mS ?_|(refine xa ?_ ?_<;>intro _)|refine ⟨_,jt act,?_⟩)<;>conv=>whnf)
   · exfalso; simp_all
   · refine Vc.loop1 (fun (v:Nat)=>v≤3) (fun v=>updL [2,3,21,22,24,25,26,27] [(12,I v),(4,.one (.ref 320000))] [(320000,.arr 115 (([Form.pot 0,Form.pot 1,Form.pot 2].take v).map eF) false)]) (fun v=>3 - v) 0 (by omega) ?_ (fun v hv=>?_)
     · exact wk
     · match v,hv with
       | 0,_ =>
         conv=>whnf
         repeat' first|((first|refine sN ?_|refine dC ?_|(refine dZ ?_;refine dI ?_)|refine vM ?_|refine vD ?_|refine mS ?_|(refine xa ?_ ?_<;>intro _)|refine w64 (by omega) (by omega) ?_|refine ⟨_,qq 0 (by decide),?_⟩|refine apN (by simp) ?_)<;>conv=>whnf)
         refine ⟨1,by omega,by simp only; omega,?_⟩
         exact wk
       | 1,_ =>
         conv=>whnf
         repeat' first|((first|refine sN ?_|refine dC ?_|(refine dZ ?_;refine dI ?_)|refine vM ?_|refine vD ?_|refine mS ?_|(refine xa ?_ ?_<;>intro _)|refine w64 (by omega) (by omega) ?_|refine ⟨_,qq 1 (by decide),?_⟩|refine apN (by simp) ?_)<;>conv=>whnf)
         refine ⟨2,by omega,by simp only; omega,?_⟩
         exact wk
       | 2,_ =>
         conv=>whnf
         repeat' first|((first|refine sN ?_|refine dC ?_|(refine dZ ?_;refine dI ?_)|refine vM ?_|refine vD ?_|refine mS ?_|(refine xa ?_ ?_<;>intro _)|refine w64 (by omega) (by omega) ?_|refine ⟨_,qq 2 (by decide),?_⟩|refine apN (by simp) ?_)<;>conv=>whnf)
         refine ⟨3,by omega,by simp only; omega,?_⟩
         exact wk
       | 3,_ =>
         conv=>whnf
         repeat' first|((first|refine sN ?_|refine dC ?_|(refine dZ ?_;refine dI ?_)|refine vM ?_|refine vD ?_|refine mS ?_|(refine xa ?_ ?_<;>intro _)|refine ⟨_,_,hw _ _ _ _ rfl rfl rfl rfl,?_⟩)<;>conv=>whnf)
         exact ⟨by rw [rowsOf,if_pos ha]; rfl,rfl⟩
 · refine xd (E:=E0) xb xc (fn:=Go.Proofs.Tryz.f237) (by kernel_rfl) (by kernel_rfl) (fun hb=>?_)
   conv=>whnf
   repeat' first|((first|refine sN ?_|refine dC ?_|(refine dZ ?_;refine dI ?_)|refine vM ?_|refine vD ?_|refine mS ?_|(refine xa ?_ ?_<;>intro _)|refine ⟨_,jt act,?_⟩)<;>conv=>whnf)
   · exact ⟨by rw [rowsOf,if_neg ha]; rfl,rfl⟩
   · exfalso; simp_all
end Cc
end
section
namespace Go.AM
open Go Go.RowKit Go.Proofs
set_option maxRecDepth 100000
def growRen:Go.Shelf.Ren:=⟨fun|4=>307|n=>n,fun|22=>198|25=>115|n=>n,fun|n=>n⟩
theorem v8:Go.Proofs.Lays8.n4 P growRen:={
 mixed:=by kernel_rfl
 f4:=⟨Go.Proofs.Tryz.f307.name,by kernel_rfl,(show P.funcs[307]?=some Go.Proofs.Tryz.f307 by kernel_rfl).trans (congrArg some (by kernel_rfl))⟩
 t0:=Tryz.underlying0,a0:=Tryz.isAgg0,z0:=Tryz.sizeOf0,v0:=Tryz.zeroValue0
 t3:=Tryz.underlying3,a3:=Tryz.isAgg3,z3:=Tryz.sizeOf3,v3:=Tryz.zeroValue3
 t4:=Tryz.underlying4,a4:=Tryz.isAgg4,z4:=Tryz.sizeOf4,v4:=Tryz.zeroValue4
 t9:=Tryz.underlying9,a9:=Tryz.isAgg9,z9:=Tryz.sizeOf9,v9:=Tryz.zeroValue9
 t20:=Tryz.underlying20,a20:=Tryz.isAgg20,z20:=Tryz.sizeOf20,v20:=Tryz.zeroValue20
 t22:=Tryz.underlying198,a22:=Tryz.isAgg198,z22:=Tryz.sizeOf198,v22:=Tryz.zeroValue198 }
theorem xgt:(P:Program).cellsOf 115=3:=by kernel_rfl
theorem xn3 {w:World} {Z:Nat→Prop} {v:Value} (ho:w.ownsRow 0 115 3 v 0 []):Ow P w Z (.sl 115 []) v v.ownBlock.toList:=by
 have h:Ow P w Z (.sl 115 []) v (v.ownBlock.toList++([]:List (List Nat)).flatten) :=
  .sl (cells:=[]) (by simp) (by simp) (by rw [xgt]; exact ho) rfl (by simp)
 simpa using h
theorem xms {w:World} {Z:Nat→Prop} {x:Value} {f:List Nat} (h:Ow P w Z (.sl 115 []) x f):f=x.ownBlock.toList∧w.ownsRow 0 115 3 x 0 []:=by
 cases h with
 | sl hm hw ho hf hr =>
   rename_i cells fs
   rw [xgt] at ho
   have h0:cells=[]:=List.eq_nil_of_length_eq_zero (by simpa using ho.1)
   subst h0
   have h1:fs=[]:=List.eq_nil_of_length_eq_zero hf
   subst h1
   exact ⟨by simp,ho⟩
theorem xul {w:World} {Z:Nat→Prop} {io:Option Io} {a b:AV} {vals:List Value} {fin:List Nat} (h:InsR P w Z io [(.own,.one a),(.pure,.one b)] vals fin):∃ x y f,vals=[x,y]∧fin=f∧Ow P w Z a x f∧Rd P w Z b y:=by
 cases h with
 | cons h t =>
   cases t with
   | cons h2 t2 =>
     cases t2
     cases h2 with
     | pone h2 =>
       cases h with
       | oone h=>exact ⟨_,_,_,rfl,by simp,h,h2⟩
theorem xpk (n:Nat) (hn:n≤100000):Sem P 307 [(.own,.one (.sl 115 [])),(.pure,I n)] [] (.one (.sl 115 [])):=by
 refine ⟨by refine ⟨Go.Proofs.Tryz.f307,?_,?_,?_⟩<;>kernel_rfl,fun w Z io vals fin hG hI hio hnd hfin hZ=>?_⟩
 have hio:io=none:=by
  rcases hio with h|⟨lo,hi,v,hm⟩
  · exact h
  · simp at hm
 subst hio
 obtain ⟨x,y,f,rfl,rfl,hx,hy⟩:=xul hI
 obtain ⟨rfl,ho⟩:=xms hx
 cases hy
 have room:∀ {e:Ending} {w':World},e=.returned x∧w'=w→∃ v,e=.returned v∧Post P w Z none [(.own,.one (.sl 115 [])),(.pure,I n)] [x,.int .i64 n] x.ownBlock.toList [] (.one (.sl 115 [])) v w':=by
  rintro e w' ⟨rfl,rfl⟩
  refine ⟨x,rfl,Z,x.ownBlock.toList,[],⟨rfl,rfl,rfl,Nat.le_refl _,fun _ _ _ _=>rfl,fun i hi=>by cases hi⟩,fun b h=>h,fun b h=>⟨.inl h,(hZ b h).1,fun i hi=>by cases hi⟩,.one (xn3 ho),.own (.pure .nil),by simpa using xcj _,fun b hb=>?_⟩
  have hb':b∈x.ownBlock.toList:=by simpa using hb
  exact ⟨.inl hb',(hfin b hb').1,(hfin b hb').2.1,fun i hi=>by cases hi⟩
 have fresh:∀ (c:Nat) (cells:Array Value) (cap:Nat),cells.size=cap*3→cap≤maxLen→∀ {e:Ending} {w':World},e=.returned (.slice (some ⟨w.heap.size,0,none⟩) 0 cap)∧w'=w.drew.alloc (.cells cells 115)→∃ v,e=.returned v∧Post P w Z none [(.own,.one (.sl 115 [])),(.pure,I n)] [x,.int .i64 n] x.ownBlock.toList [] (.one (.sl 115 [])) v w':=by
  rintro c cells cap hs hm e w' ⟨rfl,rfl⟩
  have hB:Below w.heap.size w (w.drew.alloc (.cells cells 115)):=(Below.refl _ w).drew.alloc (Nat.le_refl _) _
  have ho':=World.ownsRow_made (base:=0) (e:=115) (size:=3) w.drew cells cap (Nat.zero_le _) hm hs
  refine ⟨_,rfl,Z,[w.heap.size],[],⟨hB.os,hB.tape,hB.output,hB.size,fun k hk _ _=>hB.block k hk,fun i hi=>by cases hi⟩,fun b h=>h,fun b h=>⟨.inl h,Nat.lt_of_lt_of_le (hZ b h).1 hB.size,fun i hi=>by cases hi⟩,.one (xn3 ho'),.own (.pure .nil),by simp,fun b hb=>?_⟩
  have hb':b=w.heap.size:=by simpa using hb
  subst hb'
  exact ⟨.inr (Nat.le_refl _),by have:=heap_alloc_new w.drew (.cells cells 115); exact (Array.getElem?_eq_some_iff.1 this).1,fun hz=>absurd (hZ _ hz).1 (Nat.lt_irrefl _),fun i hi=>by cases hi⟩
 by_cases h0:n=0
 · subst h0
   rcases ho.2 with ⟨rfl,_⟩|⟨g,cap,cur,rfl,h1,h2,h3,h4,h5,h6⟩
   · exact (Any8.slices_Grow_room v8 none 0 0 0 w (by decide) (by decide) (by decide) (by decide)).mono fun e w' h=>room h
   · exact (Any8.slices_Grow_room v8 _ 0 cap 0 w (Nat.zero_le _) (by have : maxLen = 9223372036854775807 := by decide
                                                                            omega) (by decide) (Nat.zero_le _)).mono fun e w' h=>room h
 · have hml:maxLen=9223372036854775807:=by decide
   have hinfo:(P.info? 115).map (fun i=>(i.zero.map (fun z=>z.cells.size),i.size,i.bytes))=some (some 3,3,56):=by kernel_rfl
   obtain ⟨i0,hi0,hinfo⟩:=Option.map_eq_some_iff.1 hinfo
   simp only [Prod.mk.injEq] at hinfo
   obtain ⟨hz,hs0,hb0⟩:=hinfo
   obtain ⟨z,hz0,hz3⟩:=Option.map_eq_some_iff.1 hz
   have hge:∀ c,n≤grownCap w (0+n) c 115:=fun c=>by have:=grownCap_ge w (0+n) c 115; omega
   have hle:∀ c,grownCap w (0+n) c 115≤maxLen:=fun c=>grownCap_le_maxLen w (0+n) c 115 (by omega)
   have hzc:∀ k,(Builtin.zeroCells z.cells k).size=k*3:=fun k=>by simp [Builtin.zeroCells,hz3]
   rcases ho.2 with ⟨rfl,_⟩|⟨g,cap,cur,rfl,h1,h2,h3,h4,h5,h6⟩
   · refine (Any8.slices_Grow_grow v8 i0 z hi0 hz0 (by omega) none 0 0 n [] w (by decide) (by omega) (by rw [hb0]; omega) (by omega) (by simp) (fun _=>rfl) (by intro a h; cases h)).mono fun e w' h=>fresh 0 _ _ ?_ (hle 0) h
     simp only [Array.size_append,hzc,List.size_toArray,List.length_nil]
     have:=hge 0
     show 0+(0+n - 0)*3+(grownCap w (0+n) 0 115 - (0+n))*3=grownCap w (0+n) 0 115*3
     omega
   · by_cases hc:n≤cap
     · exact (Any8.slices_Grow_room v8 _ 0 cap n w (Nat.zero_le _) (by omega) (by omega) (by omega)).mono fun e w' h=>room h
     · refine (Any8.slices_Grow_grow v8 i0 z hi0 hz0 (by omega) (some ⟨g,0,none⟩) 0 cap n cur.toList w (by omega) (by omega) (by rw [hb0]; omega) (by omega) (by simp [h5,hs0]) (by intro h; cases h) (by
        rintro a rfl' j v hj
        cases rfl'
        have e:(⟨g,0,none⟩:Addr).add j=⟨g,j,none⟩:=by cases j<;>simp [Addr.add]
        rw [e]
        simp only [World.cell?,h2]
        simpa using hj)).mono fun e w' h=>fresh 0 _ _ ?_ (hle cap) h
       simp only [Array.size_append,hzc,Array.toArray_toList,h5]
       have:=hge cap
       show cap*3+(0+n - cap)*3+(grownCap w (0+n) cap 115 - (0+n))*3=grownCap w (0+n) cap 115*3
       omega
end Go.AM
end
