/- The laws FnMsgOk, FnSitFree: part 2 of 41. No conditions beyond the statement. -/
import Derived.LoopN
import Derived.IntWalk
import Derived.Test.YtnigojkdmmeglaaGreatDoorAll1
set_option linter.unusedVariables false
set_option linter.unusedSimpArgs false
set_option maxRecDepth 100000
set_option maxHeartbeats 16000000
section
namespace Go.AM
open Go
def fplc (kp:Bool):Nat->List AV->List Value->List (List Nat)->List Plc
 | n,.sl t rows::r,x::xs,f::fs=>bif kp then ⟨n,.arr t rows false,x,(0,0),f⟩::fplc kp (n+1) r xs fs else fplc kp (n+1) r xs fs
 | n,_::r,_::xs,_::fs=>fplc kp (n+1) r xs fs
 | _,_,_,_=>[]
theorem xai {kp:Bool} {lent:List Nat} {n:Nat} {c:AV} {r:List AV}:∃ c' os,(fresh kp lent n (c::r)).1=c'::(fresh kp lent (n+1) r).1/\(fresh kp lent n (c::r)).2=os++(fresh kp lent (n+1) r).2 /\
 ((∃ t rows,c=.sl t rows/\kp=true/\c'=.ref n/\os=[(n,.arr t rows false)])\/(∃ t rows,c=.sl t rows/\kp=false/\c'=.fr lent t rows/\os=[])\/(∃ t rows,c=.fr [] t rows/\c'=.fr lent t rows/\os=[]) \/
   (∃ v,c=.prim v/\c'=.prim v/\os=[])\/(c'=.undef/\os=[]/\∀ t rows,c≠.sl t rows)):=by
 cases c
 case sl t rows =>
  cases kp
  · exact ⟨_,_,rfl,by simp [fresh],.inr (.inl ⟨t,rows,rfl,rfl,rfl,rfl⟩)⟩
  · exact ⟨_,_,rfl,by simp [fresh],.inl ⟨t,rows,rfl,rfl,rfl,rfl⟩⟩
 case fr ns t rows =>
  cases ns
  · exact ⟨_,[],rfl,rfl,.inr (.inr (.inl ⟨t,rows,rfl,rfl,rfl⟩))⟩
  · exact ⟨_,[],rfl,rfl,.inr (.inr (.inr (.inr ⟨rfl,rfl,by simp⟩)))⟩
 case prim v=>exact ⟨_,[],rfl,rfl,.inr (.inr (.inr (.inl ⟨v,rfl,rfl,rfl⟩)))⟩
 all_goals exact ⟨_,[],rfl,rfl,.inr (.inr (.inr (.inr ⟨rfl,rfl,by simp⟩)))⟩
theorem zj {kp:Bool} {lent:List Nat}:∀ {cs:List AV} {n:Nat},(fresh kp lent n cs).1.length=cs.length
 | [],n=>rfl
 | c::r,n=>by
   obtain ⟨c',os,h1,_⟩:=xai (kp:=kp) (lent:=lent) (n:=n) (c:=c) (r:=r);rw [h1]; simp [zj (cs:=r)]
theorem xbp {kp:Bool} {lent:List Nat}:∀ {cs:List AV} {n k:Nat} {c:AV},cs[k]?=some c->∃ c',(fresh kp lent n cs).1[k]?=some c' /\
 ((∃ t rows,c=.sl t rows/\kp=true/\c'=.ref (n+k))\/(∃ t rows,c=.sl t rows/\kp=false/\c'=.fr lent t rows)\/(∃ t rows,c=.fr [] t rows/\c'=.fr lent t rows)\/(∃ v,c=.prim v/\c'=.prim v)\/c'=.undef)
 | [],n,k,c,h=>by simp at h
 | c0::r,n,0,c,h=>by
   simp at h; subst h;obtain ⟨c',os,h1,h2,h3⟩:=xai (kp:=kp) (lent:=lent) (n:=n) (c:=c0) (r:=r);refine ⟨c',by rw [h1]; rfl,?_⟩;rcases h3 with ⟨t,rows,e1,e2,e3,_⟩|⟨t,rows,e1,e2,e3,_⟩|⟨t,rows,e1,e3,_⟩|⟨v,e1,e3,_⟩|⟨e3,_⟩
   · exact .inl ⟨t,rows,e1,e2,e3⟩
   · exact .inr (.inl ⟨t,rows,e1,e2,e3⟩)
   · exact .inr (.inr (.inl ⟨t,rows,e1,e3⟩))
   · exact .inr (.inr (.inr (.inl ⟨v,e1,e3⟩)))
   · exact .inr (.inr (.inr (.inr e3)))
 | c0::r,n,k+1,c,h=>by
   obtain ⟨c',os,h1,h2,h3⟩:=xai (kp:=kp) (lent:=lent) (n:=n) (c:=c0) (r:=r);obtain ⟨c'',g1,g2⟩:=xbp (kp:=kp) (lent:=lent) (n:=n+1) (k:=k) (by simpa using h);rw [show n+1+k=n+(k+1) by omega] at g2;exact ⟨c'',by rw [h1]; simpa using g1,g2⟩
theorem vg {kp:Bool} {lent:List Nat}:∀ {cs:List AV} {n:Nat} {xs:List Value} {fs:List (List Nat)},xs.length=cs.length->fs.length=cs.length->(fplc kp n cs xs fs).map (fun p=>(p.n,p.o))=(fresh kp lent n cs).2
 | [],n,[],[],_,_=>rfl
 | c::r,n,x::xs,f::fs,h1,h2=>by
   have ih:=vg (kp:=kp) (lent:=lent) (cs:=r) (n:=n+1) (xs:=xs) (fs:=fs) (by simpa using h1) (by simpa using h2);obtain ⟨c',os,g1,g2,g3⟩:=xai (kp:=kp) (lent:=lent) (n:=n) (c:=c) (r:=r);rw [g2];cases c
   case sl t rows =>
    cases kp
    · rcases g3 with ⟨t,rows,e1,e2,e3,e4⟩|⟨t,rows,e1,e2,e3,e4⟩|⟨t,rows,e1,e3,e4⟩|⟨v,e1,e3,e4⟩|⟨e3,e4,e5⟩
      · cases e2
      · rw [e4]; exact ih
      · cases e1
      · cases e1
      · rw [e4]; exact ih
    · rcases g3 with ⟨t,rows,e1,e2,e3,e4⟩|⟨t,rows,e1,e2,e3,e4⟩|⟨t,rows,e1,e3,e4⟩|⟨v,e1,e3,e4⟩|⟨e3,e4,e5⟩
      · cases e1; rw [e4]; simp only [fplc,x1i,x0d,ih]; rfl
      · cases e2
      · cases e1
      · cases e1
      · exact absurd rfl (e5 _ _)
   all_goals
    rcases g3 with ⟨t,rows,e1,e2,e3,e4⟩|⟨t,rows,e1,e2,e3,e4⟩|⟨t,rows,e1,e3,e4⟩|⟨v,e1,e3,e4⟩|⟨e3,e4,e5⟩
    · cases e1
    · cases e1
    all_goals (rw [e4]; exact ih)
theorem ye {kp:Bool}:∀ {cs:List AV} {n:Nat} {xs:List Value} {fs:List (List Nat)} {p:Plc},p∈fplc kp n cs xs fs->kp=true/\∃ k t rows x f,cs[k]?=some (.sl t rows)/\xs[k]?=some x/\fs[k]?=some f/\p=⟨n+k,.arr t rows false,x,(0,0),f⟩
 | [],n,xs,fs,p,h=>by cases xs<;>cases fs<;>simp [fplc] at h
 | c::r,n,[],fs,p,h=>by cases c<;>simp [fplc] at h
 | c::r,n,x::xs,[],p,h=>by cases c<;>simp [fplc] at h
 | c::r,n,x::xs,f::fs,p,h=>by
   have tl:p∈fplc kp (n+1) r xs fs->kp=true/\∃ k t rows x' f',(c::r)[k]?=some (.sl t rows)/\(x::xs)[k]?=some x'/\(f::fs)[k]?=some f'/\p=⟨n+k,.arr t rows false,x',(0,0),f'⟩:=fun h=>by
    obtain ⟨h1,k,t,rows,x',f',h2,h3,h4,h5⟩:=ye h;exact ⟨h1,k+1,t,rows,x',f',by simpa using h2,by simpa using h3,by simpa using h4,by rw [h5]; congr 1; omega⟩
   cases c<;>simp only [fplc] at h
   case sl t rows =>
    cases kp
    · exact tl h
    · simp only [x1i] at h;rcases xzn.1 h with rfl|h
      · exact ⟨rfl,0,t,rows,x,f,rfl,rfl,rfl,rfl⟩
      · exact tl h
   all_goals exact tl h
theorem xck {kp:Bool} (hk:kp=true):∀ {cs:List AV} {n:Nat} {xs:List Value} {fs:List (List Nat)} {k t:Nat} {rows:List (List AV)} {x:Value} {f:List Nat},cs[k]?=some (.sl t rows)->xs[k]?=some x->fs[k]?=some f->(⟨n+k,.arr t rows false,x,(0,0),f⟩:Plc)∈fplc kp n cs xs fs
 | c::r,n,y::xs,g::fs,0,t,rows,x,f,h1,h2,h3=>by
   simp at h1 h2 h3; subst h1; subst h2; subst h3; subst hk;simp [fplc]
 | c::r,n,y::xs,g::fs,k+1,t,rows,x,f,h1,h2,h3=>by
   have ih:=xck hk (cs:=r) (n:=n+1) (xs:=xs) (fs:=fs) (k:=k) (by simpa using h1) (by simpa using h2) (by simpa using h3);rw [show n+1+k=n+(k+1) by omega] at ih;cases c<;>simp only [fplc]
   case sl t' rows' =>
    cases kp
    · exact ih
    · exact xzp _ ih
   all_goals exact ih
 | [],_,_,_,_,_,_,_,_,h,_,_=>by simp at h
 | _::_,_,[],_,_,_,_,_,_,_,h,_=>by simp at h
 | _::_,_,_::_,[],_,_,_,_,_,_,_,h=>by simp at h
theorem xb5 {kp:Bool} {lent:List Nat}:∀ {cs:List AV} {k:Prop},keptOk kp lent cs k->k/\(kp=true->lent≠[]->∀ t rows,AV.sl t rows∈cs->allPrim rows)
 | [],k,h=>⟨h,by simp⟩
 | c::r,k,h=>by
   have tl:keptOk kp lent r k->(∀ t rows,c=.sl t rows->kp=true->lent≠[]->allPrim rows)->k/\(kp=true->lent≠[]->∀ t rows,AV.sl t rows∈c::r->allPrim rows):=fun h hc=>by
    obtain ⟨h1,h2⟩:=xb5 h;refine ⟨h1,fun e1 e2 t rows hm=>?_⟩;rcases xzn.1 hm with e|hm
    · exact hc t rows e.symm e1 e2
    · exact h2 e1 e2 t rows hm
   cases c<;>simp only [keptOk] at h
   case sl t rows =>
    split at h
    · exact tl h.2 fun t rows e _ _=>by cases e; exact h.1
    · rename_i hx;refine tl h fun t rows e e1 e2=>?_
      cases lent with
      | nil=>exact absurd rfl e2
      | cons a l=>exact (hx a l e1 rfl).elim
   all_goals exact tl h fun t rows e=>by cases e
theorem Ow.primRows {P:Program} {w:World} {Z Z':Nat->Prop} {t:Nat} {rows:List (List AV)} {x:Value} {f:List Nat} (h:Ow P w Z (.sl t rows) x f) (hp:allPrim rows):Ow P w Z' (.sl t rows) x f:=by
 cases h with
 | @sl _ _ _ cells fs hm hw ho hf hr =>
   refine .sl hm hw ho hf fun k av y g h1 h2 h3=>?_;obtain ⟨row,hr',hm⟩:=vx h1;obtain ⟨v,rfl⟩:=hp row hr' av hm;have:=hr k _ y g h1 h2 h3
   cases this with
   | prim h=>exact .prim h
theorem xea {P:Program} {st':St} {pl':Pl} {Z' Zn:Nat->Prop} {w':World} {kp:Bool} {lent:List Nat} {n:Nat} {cs:List AV} {xs:List Value} {fs:List (List Nat)} (hx:xs.length=cs.length) (hf:fs.length=cs.length)
 (how:∀ (k:Nat) (av:AV) (x:Value) (g:List Nat),cs[k]?=some av->xs[k]?=some x->fs[k]?=some g->Ow P w' Z' av x g)
 (hS:∀ b,Z' b->Sup pl' Zn lent b) (hfz:kp=false->∀ b∈fs.flatten,Zn b)
 (hobj:∀ p∈fplc kp n cs xs fs,pl'.hdr p.n=p.h/\lk st'.s p.n=some p.o):Ars P st' pl' Zn w' (fresh kp lent n cs).1 xs:=by
 refine ⟨by rw [zj,hx],fun k av y hk hy=>?_⟩;have hkl:k<cs.length:=by rw [<- hx]; exact (xzm.1 hy).1
 have hkf:k<fs.length:=by omega
 have hO:=how k _ y _ (xzh hkl) hy (xzh hkf);obtain ⟨c',h1,h2⟩:=xbp (kp:=kp) (lent:=lent) (n:=n) (xzh hkl);rw [hk] at h1; cases h1;rcases h2 with ⟨t,rows,e1,e2,rfl⟩|⟨t,rows,e1,e2,rfl⟩|⟨t,rows,e1,rfl⟩|⟨v,e1,rfl⟩|rfl
 · have hm:=xck e2 (n:=n) (by rw [<- e1]; exact xzh hkl) hy (xzh hkf);intro t' rows' p ho;exact ((hobj _ hm).1).symm
 · rw [e1] at hO;intro _;refine hO.rd (fun b hb=>.inl (hfz e2 b (yn (xzh hkf) b hb))) hS
 · rw [e1] at hO;intro _;generalize fs[k]=g at hO
   cases hO with
   | fr0 h=>exact h.mono hS fun _ _=>rfl
 · rw [e1] at hO;generalize fs[k]=g at hO
   cases hO with
   | prim h=>exact ⟨rfl,h⟩
 · trivial
theorem xeb {u:List Nat} {kp:Bool} {lent:List Nat} {n:Nat} {cs:List AV} (hl:∀ m∈lent,memN (m / 64) u=true) (hn:kp=true->∀ (k t:Nat) (rows:List (List AV)),cs[k]?=some (.sl t rows)->memN ((n+k) / 64) u=true):(fresh kp lent n cs).1.all (AV.inU u)=true:=by
 refine xzl.2 fun av hav=>?_;obtain ⟨k,hk,rfl⟩:=x0h.1 hav;have hkl:k<cs.length:=by rw [zj] at hk; exact hk
 obtain ⟨c',h1,h2⟩:=xbp (kp:=kp) (lent:=lent) (n:=n) (xzh hkl);rw [xzh hk] at h1;simp only [x0g] at h1;rw [h1];rcases h2 with ⟨t,rows,e1,e2,rfl⟩|⟨t,rows,e1,e2,rfl⟩|⟨t,rows,e1,rfl⟩|⟨v,e1,rfl⟩|rfl
 · exact hn e2 k t rows (by rw [<- e1]; exact xzh hkl)
 · simp only [AV.inU,xzl]; exact hl
 · simp only [AV.inU,xzl]; exact hl
 · rfl
 · rfl
end Go.AM
end
section
namespace Go.AM
open Go
def ZNew (Z Z2:Nat->Prop) (fin ff:List Nat) (size:Nat) (b:Nat):Prop:=Z b\/(Z2 b/\(b∈fin\/size<=b))\/b∈ff
section
variable {P:Program} {cx:Cx} {st:St} {a:Act} {w:World} {pl:Pl} {Z:Nat->Prop}
theorem xfg (R:Rel P cx st a w pl Z) {i:Io} (hi:cx.io=some i):i.b<w.heap.size:=by
 obtain ⟨c,c',ty,e1,e2,e3,e4⟩:=R.fr.iob i hi;exact (x0t.1 e2).1
theorem xi9 (R:Rel P cx st a w pl Z) {dst:Option Nat} {uid:Nat} {pk:Pk} {ps:List Plc} {lent ds:List Nat} (hdel:pk.del=ds.reverse) (hok:okPk st uid pk=true) (hput:pk.put=ps.map fun p=>(p.n,p.o))
 (hds:∀ m∈ds,∃ t rows p,lk st.s m=some (.arr t rows p)) (hnd:ds.Nodup) (hlent:∀ m∈lent,st.has m) (hfr:∀ p∈ps,lk st.s p.n=none)
 {w':World} {Z2:Nat->Prop} {ff:List Nat} {v:Value} (hF:Frm w w' (ds.flatMap pl.own) none) (hZ:∀ b,Sup pl Z lent b->Z2 b) (hZ2:∀ b,Z2 b->(Sup pl Z lent b\/b∈ds.flatMap pl.own\/w.heap.size<=b)/\b<w'.heap.size)
 (hff:∀ b∈ff,(b∈ds.flatMap pl.own\/w.heap.size<=b)/\b<w'.heap.size) (hb:∀ p∈ps,p.f.Nodup/\∀ b∈p.f,(b∈ds.flatMap pl.own\/w.heap.size<=b)/\b<w'.heap.size/\¬ Z2 b/\b ∉ ff)
 (hdj:∀ p∈ps,∀ q∈ps,p.n≠q.n->∀ b∈p.f,b ∉ q.f) (hbox:∀ p∈ps,∀ row,p.o=.box row->p.ad.1∈p.f)
 (hob:(∀ b,Z2 b->Sup (over pl ps) (ZNew Z Z2 (ds.flatMap pl.own) ff w.heap.size) lent b)->∀ p∈ps,ObR P (apply st dst uid pk) (over pl ps) (ZNew Z Z2 (ds.flatMap pl.own) ff w.heap.size) w' p.n p.o/\p.o.inU (uid::st.u)=true)
 (hval:(∀ b,Z2 b->Sup (over pl ps) (ZNew Z Z2 (ds.flatMap pl.own) ff w.heap.size) lent b)->Tr P (apply st dst uid pk) (over pl ps) (ZNew Z Z2 (ds.flatMap pl.own) ff w.heap.size) w' pk.val v/\pk.val.inU (uid::st.u)=true) :
 Step P cx st w pl Z dst uid pk v w' (over pl ps) (ZNew Z Z2 (ds.flatMap pl.own) ff w.heap.size):=by
 have hdh:∀ m∈ds,st.has m:=fun m hm=>by obtain ⟨t,r,p,h⟩:=hds m hm; unfold St.has St.O; rw [h]; rfl
 have hnm:names pk.put=ps.map (·.n):=by rw [hput,yd]
 have hu':uniqN (ps.map (·.n))=true:=by have:=y7 hok; rw [<- hnm]; exact this
 have hW:∀ b,Wr st pl pk b↔b∈ds.flatMap pl.own:=by
  intro b;constructor
  · rintro ⟨n,hn|hn,hh,hb⟩
    · rw [hnm] at hn;obtain ⟨p,hp,rfl⟩:=xzv.1 hn;unfold St.has St.O at hh; rw [hfr p hp] at hh; cases hh
    · exact x0i.2 ⟨n,by rw [hdel] at hn; simpa using hn,hb⟩
  · intro hb;obtain ⟨m,hm,hb⟩:=x0i.1 hb;exact ⟨m,.inr (by rw [hdel]; simpa using hm),hdh m hm,hb⟩
 have chg:Chg w w' (Wr st pl pk):=⟨hF.os,hF.tape,hF.output,hF.size,fun k hk hnk=>hF.blk k hk (fun h=>hnk ((hW k).2 h)) fun i hi=>by cases hi⟩;have hfin:∀ b∈ds.flatMap pl.own,b<w.heap.size/\¬ Z b/\cx.may b/\∀ i,cx.io=some i->b≠i.b:=by
  intro b hb;obtain ⟨m,hm,hb⟩:=x0i.1 hb;obtain ⟨h1,h2,h3⟩:=R.lt m (hdh m hm) b hb;refine ⟨h1,h2,h3,fun i hi e=>?_⟩;obtain ⟨t,r,p,h⟩:=hds m hm;exact R.ioa i hi m t r p h (e▸hb)
 have hmay:∀ b,(b∈ds.flatMap pl.own\/w.heap.size<=b)->cx.mayZ b:=by
  intro b hb;rcases hb with hb|hb
  · obtain ⟨h1,h2,h3,h4⟩:=hfin b hb;refine ⟨?_,h4⟩;rcases h3 with h|⟨i,hi,e⟩|h
    · exact .inr (.inl h)
    · exact absurd e (h4 i hi)
    · exact .inr (.inr h)
  · exact ⟨.inr (.inr (x1r R.fr.size hb)),fun i hi e=>by have:=xfg R hi; omega⟩
 have hsup:∀ b,Z2 b->Sup (over pl ps) (ZNew Z Z2 (ds.flatMap pl.own) ff w.heap.size) lent b:=by
  intro b hb;rcases (hZ2 b hb).1 with (h|⟨m,hm,h⟩)|h|h
  · exact .inl (.inl h)
  · refine .inr ⟨m,hm,?_⟩;rw [(xc1 (pl:=pl) (ps:=ps) (n:=m) (fun hmm=>?_)).2.2]
    · exact h
    · obtain ⟨p,hp,e⟩:=xzv.1 hmm;have:=hlent m hm;unfold St.has St.O at this; rw [<- e,hfr p hp] at this; cases this
  · exact .inl (.inr (.inl ⟨hb,.inl h⟩))
  · exact .inl (.inr (.inl ⟨hb,.inr h⟩))
 refine Step.of R hok ps hput chg (R.frm chg fun b hb=>?_) (fun p hp o ho=>by rw [hfr p hp] at ho; cases ho) (fun b h=>.inl h) (fun b h=>?_) (fun p hp=>?_) hdj (fun d _=>hval hsup) (fun i hi p hp row hr had=>?_) fun i hi p hp _ hbi=>?_
 · obtain ⟨m,hm,h⟩:=x0i.1 ((hW b).1 hb);obtain ⟨t,r,p,hl⟩:=hds m hm;exact ⟨m,t,r,p,hl,h⟩
 · rcases h with h|⟨h1,h2⟩|h
   · exact .inl h
   · exact .inr ⟨h2.imp_left (hW b).2,(hZ2 b h1).2,hmay b h2⟩
   · obtain ⟨h1,h2⟩:=hff b h;exact .inr ⟨h1.imp_left (hW b).2,h2,hmay b h1⟩
 · obtain ⟨h1,h2⟩:=hob hsup p hp;obtain ⟨h3,h4⟩:=hb p hp;refine ⟨h1,h3,h2,fun b hbf=>?_⟩;obtain ⟨g1,g2,g3,g4⟩:=h4 b hbf;refine ⟨g2,?_,?_⟩
   · rintro (h|⟨h,_⟩|h)
     · exact g3 (hZ b (.inl h))
     · exact g3 h
     · exact g4 h
   · rcases g1 with h|h
     · exact .inr ((hW b).2 h)
     · exact .inl h
 · have h1:=hbox p hp row hr;obtain ⟨g1,_⟩:=(hb p hp).2 _ h1;rcases g1 with h|h
   · exact absurd had ((hfin _ h).2.2.2 i hi)
   · have:=xfg R hi; omega
 · obtain ⟨g1,_⟩:=(hb p hp).2 _ hbi;rcases g1 with h|h
   · exact absurd rfl ((hfin _ h).2.2.2 i hi)
   · have:=xfg R hi; omega
theorem xfr:∀ {vs:List (Bool × List AV)} {l:List AV},(regroup vs l).length=vs.length
 | [],_=>rfl
 | (a,cs)::r,l=>by simp [regroup,xfr (vs:=r)]
theorem xkw {w:World} {Z:Nat->Prop}:∀ {vs:List (Bool × List AV)} {xs:List Value} {fs:List (List Nat)},xs.length=vs.length->fs.length=vs.length ->
 (∀ (k:Nat) (a:Bool) (cs:List AV) (x:Value) (f:List Nat),vs[k]?=some (a,cs)->xs[k]?=some x->fs[k]?=some f->∃ ys:List Value,Ows P w Z cs ys f/\x=bif a then .agg ys.toArray else ys.getD 0 undef) ->
 ∃
  (cells:List Value) (gs:List (List Nat)),cells.length=(vs.flatMap (·.2)).length/\gs.length=(vs.flatMap (·.2)).length/\gs.flatten=fs.flatten /\
  (∀ (k:Nat) (av:AV) (x:Value) (g:List Nat),(vs.flatMap (·.2))[k]?=some av->cells[k]?=some x->gs[k]?=some g->Ow P w Z av x g) /\
  ∀ (st:St) (pl:Pl) (Z':Nat->Prop) (L:List AV),Ars P st pl Z' w L cells->∀ (k:Nat) (a:Bool) (cs:List AV) (y:Value),(regroup vs L)[k]?=some (a,cs)->xs[k]?=some y->∃ ys:List Value,Ars P st pl Z' w cs ys/\y=bif a then .agg ys.toArray else ys.getD 0 undef
 | [],[],[],_,_,_=>⟨[],[],rfl,rfl,rfl,by simp,by simp [regroup]⟩
 |
  (a,cs)::r,x::xs,f::fs,h1,h2,h=>by
  obtain ⟨cells,gs,e1,e2,e3,e4,e5⟩:=xkw (vs:=r) (xs:=xs) (fs:=fs) (by simpa using h1) (by simpa using h2) fun k a cs x f h1 h2 h3=>h (k+1) a cs x f (by simpa using h1) (by simpa using h2) (by simpa using h3);obtain ⟨ys,⟨gs0,g1,g2,g3,g4⟩,hx⟩:=h 0 a cs x f rfl rfl rfl;refine ⟨ys++cells,gs0++gs,by simp [e1,g3],by simp [e2,g2],by simp [e3,g1],fun k av y g hk hy hg=>?_,fun st pl Z' L hL k a' cs' y hk hy=>?_⟩
  · have hk:(cs++r.flatMap (·.2))[k]?=some av:=by simpa [x1o] using hk
    by_cases hkl:k<cs.length
    · rw [x0a hkl] at hk;rw [x0a (by omega)] at hy hg;exact g4 k av y g hk hy hg
    · rw [xz8 (by omega)] at hk hy hg;rw [g3] at hy; rw [g2] at hg;exact e4 _ av y g hk hy hg
  · have hLl:L.length=ys.length+cells.length:=by rw [<- hL.1]; simp
    cases k with
    | zero =>
      simp [regroup] at hk hy;obtain ⟨rfl,rfl⟩:=hk;subst hy;refine ⟨ys,⟨?_,fun k av y hk hy=>?_⟩,hx⟩
      · rw [yb]; simp; omega
      · rw [yb,xz7] at hk
        split at hk
        · rename_i hlt;exact hL.2 k av y hk (by rw [x0a (by omega)]; exact hy)
        · cases hk
    | succ k =>
      simp [regroup] at hk hy;refine e5 st pl Z' (dropC cs.length L) ⟨?_,fun k av y hk hy=>?_⟩ k a' cs' y hk hy
      · rw [yc]; simp; omega
      · rw [yc,x0p] at hk;exact hL.2 _ av y hk (by rw [xz8 (by omega),show cs.length+k - ys.length=k by omega]; exact hy)
theorem xkx {w':World} {Z2:Nat->Prop} {res:TV} {v:Value} {f:List Nat} (h:ResR P w' Z2 res v f) (kp:Bool) (lent:List Nat) (n:Nat) :
 (∃ (cs:List AV) (xs:List Value) (fs:List (List Nat)),xs.length=cs.length/\fs.length=cs.length/\f=fs.flatten/\(∀ (k:Nat) (av:AV) (x:Value) (g:List Nat),cs[k]?=some av->xs[k]?=some x->fs[k]?=some g->Ow P w' Z2 av x g) /\
   (freshV kp lent n res).2=(fresh kp lent n cs).2/\(∀ k:Prop,keptV kp lent res k=keptOk kp lent cs k)/\(∀ u,(fresh kp lent n cs).1.all (AV.inU u)=true->(freshV kp lent n res).1.inU u=true) /\
   ∀ (st':St) (pl':Pl) (Z':Nat->Prop),Ars P st' pl' Z' w' (fresh kp lent n cs).1 xs->Tr P st' pl' Z' w' (freshV kp lent n res).1 v) \/
 (∃ (row:List AV) (b o:Nat) (c:Array Value) (ty:Nat) (fs:List (List Nat)),v=.pointer (some ⟨b,o,none⟩)/\w'.heap[b]?=some (.cells c ty (0,0))/\o+row.length<=c.size/\fs.length=row.length/\f=b::fs.flatten /\
   (∀ (k:Nat) (av:AV) (x:Value) (g:List Nat),row[k]?=some av->c[o+k]?=some x->fs[k]?=some g->Ow P w' Z2 av x g) /\
   freshV kp lent n res=(.one (.ptr n 0 0),(n,.box (fresh kp lent (n+1) row).1)::(fresh kp lent (n+1) row).2)/\∀ k:Prop,keptV kp lent res k=keptOk kp lent row k):=by
 cases h with
 | @one av x f h =>
   by_cases hfp:∃ row,av=.fp [] row 0
   · obtain ⟨row,rfl⟩:=hfp;refine .inr ?_
     cases h with
     | @fp _ b o c ty fs hb hn hf hr=>exact ⟨row,b,o,c,ty,fs,rfl,hb,hn,hf,rfl,hr,rfl,fun k=>rfl⟩
   · refine .inl ⟨[av],[v],[f],rfl,rfl,by simp,fun k a x g hk hx hg=>?_,?_⟩
     · cases k with
       | zero=>simp at hk hx hg; subst hk; subst hx; subst hg; exact h
       | succ k=>simp at hk
     · have e:freshV kp lent n (.one av)=(mkTV false (fresh kp lent n [av]).1,(fresh kp lent n [av]).2):=by
        unfold freshV
        split
        · rename_i row heq; simp only [TV.one.injEq] at heq; exact absurd ⟨row,heq⟩ hfp
        · rename_i heq; simp only [TV.one.injEq] at heq; subst heq; rfl
        · rename_i heq; cases heq
        · rename_i heq; cases heq
       have e2:∀ k:Prop,keptV kp lent (.one av) k=keptOk kp lent [av] k:=by
        intro k;unfold keptV
        split
        · rename_i row heq; simp only [TV.one.injEq] at heq; exact absurd ⟨row,heq⟩ hfp
        · rename_i heq; simp only [TV.one.injEq] at heq; subst heq; rfl
        · rename_i heq; cases heq
        · rename_i heq; cases heq
       rw [e];obtain ⟨c',hc'⟩:∃ c',(fresh kp lent n [av]).1=[c']:=List.length_eq_one_iff.1 (zj (cs:=[av]));refine ⟨rfl,e2,fun u hu=>by rw [hc'] at hu ⊢; simpa [mkTV,TV.inU] using hu,fun st' pl' Z' ha=>?_⟩;rw [hc'] at ha ⊢;exact ha.2 0 c' v rfl rfl
 | @agg cs xs f h =>
   obtain ⟨fs,g1,g2,g3,g4⟩:=h;exact .inl ⟨cs,xs,fs,g3,g2,g1,g4,rfl,fun _=>rfl,fun u hu=>hu,fun st' pl' Z' ha=>⟨xs,rfl,ha⟩⟩
 | @tup vs xs fs hx hf h =>
   obtain ⟨cells,gs,e1,e2,e3,e4,e5⟩:=xkw hx hf h;refine .inl ⟨vs.flatMap (·.2),cells,gs,e1,e2,e3.symm,e4,rfl,fun _=>rfl,fun u hu=>?_,fun st' pl' Z' ha=>⟨xs,rfl,by rw [xfr]; exact hx,e5 st' pl' Z' _ ha⟩⟩;simp only [freshV,TV.inU];refine xzl.2 fun p hp=>?_;have:∀ {vs:List (Bool × List AV)} {L:List AV},p∈regroup vs L->∀ a∈p.2,a∈L:=by
    intro vs
    induction vs with
    | nil=>intro L h; simp [regroup] at h
    | cons q r ih =>
      intro L h a ha;obtain ⟨a0,cs⟩:=q;simp only [regroup] at h;rcases xzn.1 h with rfl|h
      · rw [yb] at ha; exact x0u ha
      · have:=ih h a ha; rw [yc] at this; exact x1n this
   exact xzl.2 fun a ha=>xzl.1 hu a (this hp a ha)
end
end Go.AM
end
section
namespace Go.AM
open Go
theorem qr {fs:List (List Nat)} (h:fs.flatten.Nodup):(∀ l∈fs,l.Nodup)/\fs.Pairwise fun a b=>∀ x∈a,x ∉ b:=by
 obtain ⟨h1,h2⟩:=List.pairwise_flatten.1 h;exact ⟨h1,h2.imp fun h x hx hy=>h x hx x hy rfl⟩
theorem kd {uid:Nat}:∀ {l:List (Nat × Ob)},namesIn uid l=true->∀ p∈l,p.1 / 64=uid
 | [],_,p,hp=>by cases hp
 |
  (q1,q2)::r,h,p,hp=>by
  simp only [namesIn] at h;cases hb:Nat.beq (q1 / 64) uid<;>rw [hb] at h
  · cases h
  · rcases xzn.1 hp with rfl|hp
    · exact xz2 hb
    · exact kd h p hp
theorem xc3 {P:Program} {o:Oper} {w:World} {a:Act} {c:Call} {x:Operand} {f:Nat} {capsV:Array Value} (ho:o.op=.call c) (hc:c.callee=.value x) (hx:a.eval x=.func (.func f) #[] capsV)
 (hf : ∃ fn, P.funcs[f]? = some fn ∧ fn.body.isNone = false ∧ (fn.name == "runtime.NumGoroutine") = false) : (execOp a.eval o).run P w = .ok (.enter f (c.args.map a.eval ++ capsV)) w := by
 obtain ⟨fn,h1,h2,h3⟩:=hf;have h2':¬ fn.body=none:=by intro e; rw [e] at h2; simp at h2
 have h3' : ¬ fn.name = "runtime.NumGoroutine" := by simpa using h3
 simp [execOp,ho,resolve,hc,hx,Deferred.ofValue,invoke,callFunc,h1,h2',h3']
section
variable {P:Program} {o:Oper} {uid:Nat}
theorem xsv {c:Call} {fo:Operand} {f:Nat} (ho:o.op=.call c) (hc:c.callee=.value fo) {rt:List (Nat × TV)} {args:List TV}
 (hargs:∀ (cx:Cx) (st:St) (a:Act) (w:World) (pl:Pl) (Z:Nat->Prop),Rel P cx st a w pl Z->RdT rt st->∃ capsV:Array Value,a.eval fo=.func (.func f) #[] capsV/\(c.args.map a.eval++capsV).toList.length=args.length /\
   ∀ (j:Nat) (v:TV) (x:Value),args[j]?=some v->(c.args.map a.eval++capsV).toList[j]?=some x->Tr P st pl Z w v x)
 {st0:St} {ins:List (Mode × TV)} {lent ds:List Nat} {ro:List (Nat × Ob)} (hg:GathOk st0 args [] ins lent ro ds) (hdis:∀ m∈ds,m ∉ lent) {res:TV} (hsem:Sem P f ins [] res) {kp:Bool} (hkp:keptV kp lent res True) (hin:namesIn uid (freshV kp lent (uid*64) res).2=true) :
 Good P o uid ⟨rt,ro,(freshV kp lent (uid*64) res).1,(freshV kp lent (uid*64) res).2,ds.reverse⟩:=by
 intro cx st a w pl Z R ht hro hok K Q hK;obtain ⟨capsV,e1,e2,e3⟩:=hargs cx st a w pl Z R ht;obtain ⟨_,g2,g3,_,g5,g6⟩:=hg;have hrun:=xc3 (w:=w) ho hc e1 hsem.1;have hdo:∀ m∈ds,∃ t rows p,lk st.s m=some (.arr t rows p):=fun m hm=>by obtain ⟨t,r,h⟩:=g5 m hm; exact ⟨t,r,false,hro.mem h⟩
 have hdh:∀ m∈ds,st.has m:=fun m hm=>by obtain ⟨t,r,p,h⟩:=hdo m hm; unfold St.has St.O; rw [h]; rfl
 have hlh:∀ m∈lent,st.has m:=xci hro g2;have hlu:∀ m∈lent,memN (m / 64) (uid::st.u)=true:=fun m hm=>by
  obtain ⟨o,ho⟩:=g2 m hm;exact qh (R.us m o (hro.mem ho)).1
 have hins:=g6 P cx st a w pl Z (Sup pl Z lent) R hro (fun _ h=>h) none _ e2 e3
 have hcalls:=hsem.2 w (Sup pl Z lent) none _ (ds.flatMap pl.own) (R.gl.mono (fun b h=>.inl h) fun _ _=>rfl) hins (.inl rfl) (qq R g3 hdh) (fun b hb=>by
  obtain ⟨m,hm,hb⟩:=x0i.1 hb;obtain ⟨h1,h2,h3⟩:=R.lt m (hdh m hm) b hb;refine ⟨h1,?_,fun i hi=>by cases hi⟩;rintro (h|⟨q,hq,h⟩)
  · exact h2 h
  · exact R.dj m q (hdh m hm) (hlh q hq) (fun e=>hdis m hm (by rw [e]; exact hq)) b hb h) (fun b hb=>by
  refine ⟨?_,fun i hi=>by cases hi⟩;rcases hb with h|⟨q,hq,h⟩
  · exact (R.zlt b h).1
  · exact (R.lt q (hlh q hq) b h).1)
 unfold Oper.wp;rw [hrun,Oper.upon_enter];rw [x1s] at hcalls;refine hcalls.mono ?_;rintro e w' ⟨v,rfl,Z2,f1,g,hF,hZ,hZ2,hres,_,hnd,hblk⟩;have hfr:∀ p:Nat × Ob,p∈(freshV kp lent (uid*64) res).2->lk st.s p.1=none/\p.1 / 64=uid:=fun p hp=>by
  have hd:=kd hin p hp;exact ⟨kl R (kk hok (List.ne_nil_of_mem hp)) hd,hd⟩
 have hf1:f1.Nodup:=(x0j.1 hnd).1;have hb1:∀ b∈f1,(b∈ds.flatMap pl.own\/w.heap.size<=b)/\b<w'.heap.size/\¬ Z2 b:=fun b hb=>by
  obtain ⟨h1,h2,h3,_⟩:=hblk b (xzt _ hb); exact ⟨h1,h2,h3⟩
 have hZ2':∀ b,Z2 b->(Sup pl Z lent b\/b∈ds.flatMap pl.own\/w.heap.size<=b)/\b<w'.heap.size:=fun b hb=>by obtain ⟨h1,h2,_⟩:=hZ2 b hb; exact ⟨h1,h2⟩
 let pk:Pk:=⟨rt,ro,(freshV kp lent (uid*64) res).1,(freshV kp lent (uid*64) res).2,ds.reverse⟩
 have arrs:∀ {n:Nat} {cs:List AV} {xs:List Value} {fs:List (List Nat)} {ps:List Plc},keptOk kp lent cs True->(∀ p∈fplc kp n cs xs fs,p∈ps)->uniqN (ps.map (·.n))=true->(∀ p∈ps,p.n / 64=uid) ->
  (∀ (k:Nat) (av:AV) (x:Value) (g:List Nat),cs[k]?=some av->xs[k]?=some x->fs[k]?=some g->Ow P w' Z2 av x g)->∀ Zn,(∀ b,Z2 b->Sup (over pl ps) Zn lent b) ->
  ∀ p∈fplc kp n cs xs fs,ObR P (apply st o.dst uid pk) (over pl ps) Zn w' p.n p.o/\p.o.inU (uid::st.u)=true:=by
  intro n cs xs fs ps hko hsub hu' hpn how Zn hsup p hp;obtain ⟨hk,k,t,rows,x,f,h1,h2,h3,rfl⟩:=ye hp;obtain ⟨o1,o2,o3⟩:=xx (pl:=pl) hu' (hsub _ hp);have hO:=how k _ x f h1 h2 h3;refine ⟨?_,rfl⟩;show Ow P w' Zn (.sl t rows) _ _;rw [o1,o3];by_cases hl:lent=[]
  · exact hO.mono (fun b hb=>by rcases hsup b hb with h|⟨m,hm,_⟩; exact h; rw [hl] at hm; cases hm) (fun _ _=>rfl) (fun _ _=>rfl)
  · exact hO.primRows ((xb5 hko).2 hk hl t rows (xzy h1))
 rcases xkx hres kp lent (uid*64) with ⟨cs,xs,fs,k1,k2,rfl,k4,k5,k6,k7,k8⟩|⟨row,b,o0,c,ty,fs,rfl,k2,k3,k4,rfl,k6,k7,k8⟩
 · have hmap:=vg (kp:=kp) (lent:=lent) (n:=uid*64) k1 k2;have hput:pk.put=(fplc kp (uid*64) cs xs fs).map fun p=>(p.n,p.o):=by rw [hmap]; exact k5
   have hnm:names pk.put=(fplc kp (uid*64) cs xs fs).map (·.n):=by rw [hput,yd]
   have hu':uniqN ((fplc kp (uid*64) cs xs fs).map (·.n))=true:=by have:=y7 hok; rw [<- hnm]; exact this
   have hpm:∀ p∈fplc kp (uid*64) cs xs fs,lk st.s p.n=none/\p.n / 64=uid:=fun p hp=>hfr (p.n,p.o) (by rw [k5,<- hmap]; exact xzv.2 ⟨p,hp,rfl⟩);have hke:keptOk kp lent cs True:=by rw [<- k6]; exact hkp
   refine hK _ _ _ _ (xi9 R (pk:=pk) (ps:=fplc kp (uid*64) cs xs fs) (ff:=bif kp then [] else fs.flatten) rfl hok hput hdo g3 hlh (fun p hp=>(hpm p hp).1) hF hZ hZ2' (fun b hb=>?_) (fun p hp=>?_) (fun p hp q hq hne b hb=>?_) (fun p hp row hr=>?_) (fun hsup p hp=>?_) (fun hsup=>⟨?_,?_⟩))
   · cases kp
     · obtain ⟨h1,h2,_⟩:=hb1 b hb; exact ⟨h1,h2⟩
     · cases hb
   · obtain ⟨hk,k,t,rows,x,f,h1,h2,h3,rfl⟩:=ye hp;refine ⟨(qr hf1).1 _ (xzy h3),fun b hb=>?_⟩;obtain ⟨i1,i2,i3⟩:=hb1 b (yn h3 b hb);exact ⟨i1,i2,i3,by rw [hk]; exact x0o⟩
   · obtain ⟨hk,k,t,rows,x,f,h1,h2,h3,rfl⟩:=ye hp;obtain ⟨_,k',t',rows',x',f',h1',h2',h3',rfl⟩:=ye hq;intro hb';have hkk:k≠k':=fun e=>hne (by rw [e]);have hp2:=(qr hf1).2;rw [x15] at hp2;obtain ⟨i1,e1⟩:=xzm.1 h3;obtain ⟨i2,e2⟩:=xzm.1 h3';simp only at hb hb';rcases x3r hkk with h|h
     · exact hp2 k k' i1 i2 h _ (by rw [e1]; exact hb) (by rw [e2]; exact hb')
     · exact hp2 k' k i2 i1 h _ (by rw [e2]; exact hb') (by rw [e1]; exact hb)
   · obtain ⟨hk,k,t,rows,x,f,h1,h2,h3,rfl⟩:=ye hp; cases hr
   · exact arrs hke (fun p hp=>hp) hu' (fun p hp=>(hpm p hp).2) k4 _ hsup p hp
   · refine k8 _ _ _ (xea k1 k2 k4 hsup (fun hk b hb=>.inr (.inr ?_)) fun p hp=>⟨(xx (pl:=pl) hu' hp).1,wh hput hu' hp⟩);rw [hk]; exact hb
   · refine k7 _ (xeb hlu fun hk k t rows h1=>?_);have hkl:k<cs.length:=(xzm.1 h1).1;have:=xck (kp:=kp) hk (n:=uid*64) h1 (xzh (k1▸hkl)) (xzh (k2▸hkl));exact vv (hpm _ this).2
 · obtain ⟨xs0,hxs0⟩:∃ xs0,xs0=(c.toList.drop o0).take row.length:=⟨_,rfl⟩;have hcl:xs0.length=row.length:=by rw [hxs0]; simp; omega
   have hxg:∀ k,k<row.length->xs0[k]?=c[o0+k]?:=fun k hk=>by rw [hxs0,xz7,if_pos hk,x0p]; simp
   clear hxs0;have hmap:=vg (kp:=kp) (lent:=lent) (n:=uid*64+1) (xs:=xs0) hcl k4;let ps:List Plc:=⟨uid*64,.box (fresh kp lent (uid*64+1) row).1,undef,(b,o0),[b]⟩::fplc kp (uid*64+1) row xs0 fs;have hpe:(freshV kp lent (uid*64) res).2=ps.map fun p=>(p.n,p.o):=by rw [k7]; simp only [ps,x0d,hmap]
   have hput:pk.put=ps.map fun p=>(p.n,p.o):=hpe;have hnm:names pk.put=ps.map (·.n):=by rw [hput,yd]
   have hu':uniqN (ps.map (·.n))=true:=by have:=y7 hok; rw [<- hnm]; exact this
   have hpm:∀ p∈ps,lk st.s p.n=none/\p.n / 64=uid:=fun p hp=>hfr (p.n,p.o) (by rw [hpe]; exact xzv.2 ⟨p,hp,rfl⟩);have hke:keptOk kp lent row True:=by rw [<- k8]; exact hkp
   have hbn:b ∉ fs.flatten:=(x0x.1 hf1).1;have hfn:fs.flatten.Nodup:=(x0x.1 hf1).2;have k6':∀ (k:Nat) (av:AV) (x:Value) (g:List Nat),row[k]?=some av->xs0[k]?=some x->fs[k]?=some g->Ow P w' Z2 av x g:=fun k av x g h1 h2 h3=>k6 k av x g h1 (by rw [<- hxg k (xzm.1 h1).1]; exact h2) h3;have hmem:(⟨uid*64,.box (fresh kp lent (uid*64+1) row).1,undef,(b,o0),[b]⟩:Plc)∈ps:=xz5 ..;have hrinU:(fresh kp lent (uid*64+1) row).1.all (AV.inU (uid::st.u))=true:=by
    refine xeb hlu fun hk k t rows h1=>?_;have hkl:k<row.length:=(xzm.1 h1).1;have:=xck (kp:=kp) hk (n:=uid*64+1) h1 (xzh (hcl.symm▸hkl)) (xzh (k4▸hkl));exact vv (hpm _ (xzp _ this)).2
   refine hK _ _ _ _ (xi9 R (pk:=pk) (ps:=ps) (ff:=bif kp then [] else fs.flatten) rfl hok hput hdo g3 hlh (fun p hp=>(hpm p hp).1) hF hZ hZ2' (fun b' hb=>?_) (fun p hp=>?_) (fun p hp q hq hne b' hb=>?_) (fun p hp row hr=>?_) (fun hsup p hp=>?_) (fun hsup=>⟨?_,?_⟩))
   · cases kp
     · obtain ⟨h1,h2,_⟩:=hb1 b' (xzp _ hb); exact ⟨h1,h2⟩
     · cases hb
   · rcases xzn.1 hp with rfl|hp
     · refine ⟨by simp,fun b' hb=>?_⟩;rw [xzq.1 hb];obtain ⟨i1,i2,i3⟩:=hb1 b (xz5 ..);refine ⟨i1,i2,i3,?_⟩;cases kp
       · exact hbn
       · exact x0o
     · obtain ⟨hk,k,t,rows,x,f,h1,h2,h3,rfl⟩:=ye hp;refine ⟨(qr hfn).1 _ (xzy h3),fun b hb=>?_⟩;obtain ⟨i1,i2,i3⟩:=hb1 b (xzp _ (yn h3 b hb));exact ⟨i1,i2,i3,by rw [hk]; exact x0o⟩
   · rcases xzn.1 hp with rfl|hp<;>rcases xzn.1 hq with rfl|hq
     · exact absurd rfl hne
     · obtain ⟨hk,k,t,rows,x,f,h1,h2,h3,rfl⟩:=ye hq;rw [xzq.1 hb];exact fun h=>hbn (yn h3 b h)
     · obtain ⟨hk,k,t,rows,x,f,h1,h2,h3,rfl⟩:=ye hp;exact fun h=>hbn (yn h3 b (by rw [<- xzq.1 h]; exact hb))
     · obtain ⟨hk,k,t,rows,x,f,h1,h2,h3,rfl⟩:=ye hp;obtain ⟨_,k',t',rows',x',f',h1',h2',h3',rfl⟩:=ye hq;intro hb';have hkk:k≠k':=fun e=>hne (by rw [e]);have hp2:=(qr hfn).2;rw [x15] at hp2;obtain ⟨i1,e1⟩:=xzm.1 h3;obtain ⟨i2,e2⟩:=xzm.1 h3';simp only at hb hb';rcases x3r hkk with h|h
       · exact hp2 k k' i1 i2 h _ (by rw [e1]; exact hb) (by rw [e2]; exact hb')
       · exact hp2 k' k i2 i1 h _ (by rw [e2]; exact hb') (by rw [e1]; exact hb)
   · rcases xzn.1 hp with rfl|hp
     · exact xzq.2 rfl
     · obtain ⟨hk,k,t,rows,x,f,h1,h2,h3,rfl⟩:=ye hp; cases hr
   · rcases xzn.1 hp with rfl|hp
     · obtain ⟨o1,o2,o3⟩:=xx (pl:=pl) hu' hmem;have ha:=xea (P:=P) (st':=apply st o.dst uid pk) (w':=w') (n:=uid*64+1) hcl k4 k6' hsup (fun hk b' hb=>.inr (.inr (by rw [hk]; exact hb))) fun p hp=>⟨(xx (pl:=pl) hu' (xzp _ hp)).1,wh hput hu' (xzp _ hp)⟩;refine ⟨⟨by rw [o2,o3],c,ty,by rw [o2]; exact k2,by rw [o2]; simp [zj,k3],fun k av y hk hy=>?_⟩,hrinU⟩;rw [o2] at hy;exact ha.2 k av y hk (by rw [hxg k (by have:=(xzm.1 hk).1; rwa [zj] at this)]; exact hy)
     · exact arrs hke (fun p hp=>xzp _ hp) hu' (fun p hp=>(hpm p hp).2) k6' _ hsup p hp
   · rw [show pk.val=.one (.ptr (uid*64) 0 0) by simp only [pk,k7]];intro o' ho';have h1:=wh (st:=st) (dst:=o.dst) (uid:=uid) hput hu' hmem;have:o'=.box (fresh kp lent (uid*64+1) row).1:=x0f (ho'.symm.trans h1);subst this;simp only [ptrAt];rw [(xx (pl:=pl) hu' hmem).2.1];rfl
   · rw [show pk.val=.one (.ptr (uid*64) 0 0) by simp only [pk,k7]];exact vv (hpm _ hmem).2
end
end Go.AM
end
section
namespace Go.AM
open Go
section
variable {E:Env} (hE:tabB E=true) {uid:Nat} {st:St} {o:Oper} {k:Pk->Prop}
def OpOk (E:Env) (uid:Nat) (st:St) (o:Oper) (k:Pk->Prop):Prop:=∃ pk,k pk/\Good E.P o uid pk/\RdT pk.rt st/\RdO pk.ro st
theorem qc (hE:tabB E=true) {t:Nat} {k:Nat->Prop} (h:tyE E t k):∃ e,E.P.underlying t=some (.slice e)/\k e:=xx8 hE h
theorem tiS {t:Nat} {ti:TI} (hT:TIok E.P t ti) {s:ByteArray} (hd:ti.d=.sc) (hz:ti.z=[.prim (.string s)]):E.P.underlying t=some .string:=by
 obtain ⟨i,d,z,h1,hu,h2,h3,h4,h5,h6,h7⟩:=hT.ex;rw [hd] at h7;cases d<;>simp [tdOk,hz] at h7;exact hu
theorem tiI {t:Nat} {ti:TI} (hT:TIok E.P t ti) {j:IntKind} {n:Int} (hd:ti.d=.sc) (hz:ti.z=[.prim (.int j n)]):E.P.underlying t=some (.int j):=by
 obtain ⟨i,d,z,h1,hu,h2,h3,h4,h5,h6,h7⟩:=hT.ex;rw [hd] at h7;cases d<;>simp [tdOk,hz] at h7;rw [hu,xkl h7.1]
theorem xw4 {x:Operand} (ho:o.op=.move x) (h:opP E uid st o k):OpOk E uid st o k:=by
 simp only [opP,ho] at h;replace h:=xk h;obtain ⟨rt,v,h,hr,he⟩:=h;exact ⟨_,h,xi4 (.inl ho) he,hr,RdO.nil⟩
theorem xsw {x:Operand} (ho:o.op=.assign x) (h:opP E uid st o k):OpOk E uid st o k:=by
 simp only [opP,ho] at h;replace h:=xk h;obtain ⟨rt,v,h,hr,he⟩:=h
 split at h
 · exact ⟨_,h,xkp ho he,hr,RdO.nil⟩
 · exact ⟨_,h,xi4 (.inr ho) he,hr,RdO.nil⟩
theorem xw5 {c a b:Operand} (ho:o.op=.pick c a b) (h:opP E uid st o k):OpOk E uid st o k:=by
 simp only [opP,ho] at h;replace h:=xk h;obtain ⟨rt,v,h,hr,he⟩:=h
 split at h
 · replace h:=xk h;obtain ⟨rt',v',h,hr',he'⟩:=h;exact ⟨_,h,xi5 ho he he',RdT.append.2 ⟨hr,hr'⟩,RdO.nil⟩
 · replace h:=xk h;obtain ⟨rt',v',h,hr',he'⟩:=h;exact ⟨_,h,xi5 ho he he',RdT.append.2 ⟨hr,hr'⟩,RdO.nil⟩
 · exact h.elim
include hE
theorem xve {e:Nat} (ho:o.op=.alloc e) (h:opP E uid st o k):OpOk E uid st o k:=by
 simp only [opP,ho] at h;replace h:=zf hE h;obtain ⟨ti,hT,_,h⟩:=h;simp only [xq,x5] at h;exact ⟨_,h,xqb ho hT,RdT.nil,RdO.nil⟩
theorem xx9 {e:Nat} {x:Operand} (ho:o.op=.box e x) (h:opP E uid st o k):OpOk E uid st o k:=by
 simp only [opP,ho] at h;replace h:=xk h;obtain ⟨rt,v,h,hr,he⟩:=h
 split at h
 · exact h.elim
 · rename_i hv;replace h:=zf hE h;obtain ⟨ti,hT,_,h⟩:=h
   split at h
   · rename_i hl;replace h:=xae h;obtain ⟨ro,h,hro,hlive⟩:=h;simp only [xq,x5] at h;exact ⟨_,h,xvc ho hT he (fun vs e=>hv vs e) hl fun cx st' a w pl Z R hr av hav x hx=>hlive E.P cx st' a w pl Z R hr av hav x hx,hr,hro⟩
   · exact h.elim
theorem xvf {t:Nat} {parts:Array (Nat × Operand)} (ho:o.op=.build t parts) (h:opP E uid st o k):OpOk E uid st o k:=by
 simp only [opP,ho] at h
 split at h
 · rename_i fs n z heq;have hT:=wg hE heq;replace h:=xd9 hE h;obtain ⟨rt,ro,cs,h,hr,hro,hfin⟩:=h;exact ⟨_,h,xqf (E:=E) ho hT hfin,hr,hro⟩
 · exact h.elim
omit hE in
theorem xsx {α β:Type} (e:α) (l:List (Nat × β)) (j:Nat) (x:β) (h:(l.map (·.2))[j]?=some x):(l.map fun p=>(e,p.2))[j]?=some (e,x):=by
 simp only [xzr,xz0] at h ⊢;obtain ⟨p,h1,h2⟩:=h;exact ⟨p,h1,by rw [h2]⟩
theorem xj7 {t n:Nat} {parts:Array (Nat × Operand)} (ho:o.op=.buildSlice t n parts) (h:opP E uid st o k):OpOk E uid st o k:=by
 simp only [opP,ho] at h;replace h:=qc hE h;obtain ⟨e,hu,h⟩:=h;replace h:=zf hE h;obtain ⟨ti,hT,_,h⟩:=h
 split at h
 · rename_i hn hp;simp only [xzj] at hn;replace h:=ky h;obtain ⟨rt,vs,h,hr,hl,hev⟩:=h;replace h:=xd6 h;obtain ⟨rows,ro,ms,h,g2,g3,g4,g4',g5,g6,g7,g8⟩:=h;rw [x0l] at h;refine ⟨_,h,xg5 ho hu hT (xz2 hn.1) hp (x0v hn.2) ⟨by simpa using hl,fun j x v hx hv=>hev j e x v ?_ hv⟩ (by simpa using g3) g4 g4' g5 g7 g8,hr,g2⟩;exact xsx e parts.toList j x hx
 · exact h.elim
theorem xw6 {t:Nat} {x:Operand} (ho:o.op=.load t x) (h:opP E uid st o k):OpOk E uid st o k:=by
 simp only [opP,ho] at h;replace h:=zf hE h;obtain ⟨ti,hT,_,h⟩:=h;replace h:=xk h;obtain ⟨rt,v,h,hr,he⟩:=h
 split at h
 · rename_i n i off
   split at h
   · rename_i row hrow
     split at h
     · rename_i h1 h3;rw [xq] at h;exact ⟨_,h,xp6 ho hT he h1,hr,RdO.cons.2 ⟨hrow,RdO.nil⟩⟩
     · exact h.elim
   · rename_i te rows p hrow;obtain ⟨row,h1,h⟩:=h
     split at h
     · rename_i h2;rw [xq] at h;exact ⟨_,h,xp7 ho hT he h1 h2,hr,RdO.cons.2 ⟨hrow,RdO.nil⟩⟩
     · exact h.elim
   · exact h.elim
 · rename_i ns row off
   split at h
   · rename_i h1;replace h:=yi h;obtain ⟨ro,h,hro,hal⟩:=h;rw [xq] at h;exact ⟨_,h,xp8 ho hT he hal h1,hr,hro⟩
   · exact h.elim
 · exact h.elim
theorem xvg {t:Nat} {x v:Operand} (ho:o.op=.store t x v) (h:opP E uid st o k):OpOk E uid st o k:=by
 simp only [opP,ho] at h;replace h:=zf hE h;obtain ⟨ti,hT,_,h⟩:=h;replace h:=xk h;obtain ⟨rt,a,h,hr,he⟩:=h;replace h:=xk h;obtain ⟨rt',tv,h,hr',he'⟩:=h
 split at h
 · rename_i n i off hl
   split at h
   · rename_i row hrow
     split at h
     · rename_i h1 h3;replace h:=xae h;obtain ⟨ro,h,hro,hlive⟩:=h;rw [xq] at h
       split at h
       · rename_i h4;rw [x5] at h;exact ⟨_,h,xni ho hT he he' (zu.1 hl) (y6.1 h1) (xa0.1 h3) (fun cx st' a w pl Z R hr av hav x hx=>hlive E.P cx st' a w pl Z R hr av hav x hx) (xa0.1 h4),RdT.append.2 ⟨hr,hr'⟩,RdO.cons.2 ⟨hrow,hro⟩⟩
       · exact h.elim
     · exact h.elim
   · rename_i te rows p hrow;obtain ⟨row,h1,h⟩:=h
     split at h
     · rename_i h2;replace h:=j1 h;obtain ⟨cs,ro,ms,h,g1,g2,g3,g4,g5,g6⟩:=h;rw [xq] at h;have hf:(ms.reverse++[n]).filter (fun m=>!Nat.beq m n)=ms.reverse:=by
        rw [List.filter_append,List.filter_eq_self.2]
        · simp [x2i]
        · intro m hm;have:m≠n:=fun e=>g4 m (by simpa using hm) (by simp [e]);cases hb:Nat.beq m n
          · rfl
          · exact absurd (xz2 hb) this
       rw [hf] at h;exact ⟨_,h,xnj ho hT he he' (zu.1 hl) (y6.1 h2) h1 g2 g3 (fun hm=>g4 n hm (by simp)) g5 g6,RdT.append.2 ⟨hr,hr'⟩,RdO.cons.2 ⟨hrow,g1⟩⟩
     · exact h.elim
   · exact h.elim
 · exact h.elim
omit hE in
theorem xnl {x:Operand} (ho:o.op=.nilCheck x) (h:opP E uid st o k):OpOk E uid st o k:=by
 simp only [opP,ho] at h;replace h:=xk h;obtain ⟨rt,v,h,hr,he⟩:=h
 split at h
 · split at h
   · rename_i ob hob;exact ⟨_,h,xsi ho he,hr,RdO.cons.2 ⟨hob,RdO.nil⟩⟩
   · exact h.elim
 · replace h:=yi h;obtain ⟨ro,h,hro,hal⟩:=h;exact ⟨_,h,xsj ho he hal,hr,hro⟩
 · exact h.elim
end
end Go.AM
end
section
namespace Go.AM
open Go
section
variable {E:Env} (hE:tabB E=true) {uid:Nat} {st:St} {o:Oper} {k:Pk->Prop}
include hE
theorem xya {op:BinOp} {t ty:Nat} {x y:Operand} (ho:o.op=.binOp op t x y ty) (h:opP E uid st o k):OpOk E uid st o k:=by
 simp only [opP,ho] at h;replace h:=xk h;obtain ⟨rt,a,h,hr,he⟩:=h;replace h:=xk h;obtain ⟨rt',b,h,hr',he'⟩:=h
 split at h
 · replace h:=zf hE h;obtain ⟨ti,hT,_,h⟩:=h;replace h:=xva (x:=x) (y:=y) hT h;obtain ⟨c,h,h1,h2⟩:=h;exact ⟨_,h,xvb ho he he' h2 h1,RdT.append.2 ⟨hr,hr'⟩,RdO.nil⟩
 · exact h.elim
omit hE in
theorem xy3 {op:UnOp} {t:Nat} {x:Operand} (ho:o.op=.unOp op t x) (h:opP E uid st o k):OpOk E uid st o k:=by
 simp only [opP,ho] at h;replace h:=xk h;obtain ⟨rt,a,h,hr,he⟩:=h
 split at h
 · replace h:=xw0 (P:=E.P) h;obtain ⟨c,h,h1,h2⟩:=h;exact ⟨_,h,xw1 ho he h2 h1,hr,RdO.nil⟩
 · exact h.elim
omit hE in
theorem xqg {P:Program} {src dst:Nat} {x:Operand} (ho:o.op=.convert src dst x) {rt:List (Nat × TV)} {s:ByteArray} {d:TypeDesc} (hd:P.underlying dst=some .string) (hs:P.underlying src=some d) (hx:Ev P x rt (.one (.prim (.string s)))) :
 Good P o uid ⟨rt,[],.one (.prim (.string s)),[],[]⟩ :=
 Good.value fun cx st a' w pl Z R ht _=>by
  obtain ⟨⟨e1,_⟩,_⟩:=hx cx st a' w pl Z R ht;refine ⟨.string s,?_,⟨rfl,rfl⟩,rfl⟩;simp only [execOp,ho,e1,convert];simp only [Sem.run_bind,run_underlying hs,run_underlying hd,Result.andThen_ok];cases d<;>simp
theorem xqh {src dst:Nat} {x:Operand} (ho:o.op=.convert src dst x) (h:opP E uid st o k):OpOk E uid st o k:=by
 simp only [opP,ho] at h;replace h:=zf hE h;obtain ⟨ts,hTs,_,h⟩:=h;obtain ⟨_,ds,_,_,hus,_⟩:=hTs.ex;replace h:=xk h;obtain ⟨rt,a,h,hr,he⟩:=h;replace h:=zf hE h;obtain ⟨ti,hT,_,h⟩:=h
 split at h
 · rename_i hd hz;obtain ⟨c,rfl,h⟩:=h;exact ⟨_,h,xp5 ho (tiI hT hd hz) (by rw [hus]; rfl) he,hr,RdO.nil⟩
 · rename_i hd hz;exact ⟨_,h,xqg ho (tiS hT hd hz) hus he,hr,RdO.nil⟩
 · rename_i hd hz
   split at h
   · rename_i t rows p hob;replace h:=qc hE h;obtain ⟨e,hu,h⟩:=h;replace h:=zf hE h;obtain ⟨ei,hTe,_,h⟩:=h
     split at h
     · rename_i hd' hz';obtain ⟨l,rfl,h⟩:=h;exact ⟨_,h,xqc ho hu (tiI hTe hd' hz') (tiS hT hd hz) he,hr,RdO.cons.2 ⟨hob,RdO.nil⟩⟩
     · exact h.elim
   · exact h.elim
 · exact h.elim
omit hE in
theorem xze {vs:List TV} {j:Nat} {c:AV} (hall:∀ a∈vs.flatMap tvCells,(match a with|.ptr ..=>true|_=>false)=true) (hl:(vs.flatMap tvCells).length=vs.length) (h:(vs.flatMap tvCells)[j]?=some c):True:=trivial
theorem xky {t:Nat} {l c:Operand} (ho:o.op=.makeSlice t l c) (h:opP E uid st o k):OpOk E uid st o k:=by
 simp only [opP,ho] at h;replace h:=qc hE h;obtain ⟨e,hu,h⟩:=h;replace h:=zf hE h;obtain ⟨ti,hT,_,h⟩:=h;replace h:=xk h;obtain ⟨rt,a,h,hr,he⟩:=h;replace h:=xk h;obtain ⟨rt',b,h,hr',he'⟩:=h
 split at h
 · obtain ⟨rfl,h0,hn,h⟩:=h;replace h:=j1 h;obtain ⟨row,ro,ms,h,g1,g2,g3,g4,g5,g6⟩:=h
   split at h
   · rename_i hro hms;have hms':ms=[]:=by simpa using hms
     subst hms';refine ⟨_,h,xig (ro:=[]) ho hu hT he he' h0 hn g2 (fun P cx st' a w pl Z R hr xs hx=>?_) (fun _=>RdO.nil),RdT.append.2 ⟨hr,hr'⟩,RdO.nil⟩;obtain ⟨fs,f1,f2,f3⟩:=g6 P cx st' a w pl Z R hr xs hx;exact ⟨fs,f1,by simpa using f2,f3⟩
   · exact h.elim
 · exact h.elim
omit hE in
theorem xzg {x:Option Operand} {rt:List (Nat × TV)} {k':IntKind} {d n:Int} (h:Ev E.P (x.getD (.const (.int .i64 d))) rt (.one (.prim (.int k' n)))) (hR:x=none->n=d):EvD E.P x rt d n:=by
 cases x with
 | none=>exact .inl ⟨rfl,hR rfl⟩
 | some y=>exact .inr ⟨y,k',rfl,h⟩
omit hE in
theorem k9 {t:Nat} {x:Option Operand} {d:Int} {k:List (Nat × TV)->TV->Prop} (h:getX E st t (x.getD (.const (.int .i64 d))) k):∃ rt v,k rt v/\RdT rt st/\∀ j n,v=.one (.prim (.int j n))->EvD E.P x rt d n:=by
 cases x with
 | none=>exact ⟨[],.one (.prim (.int .i64 d)),h,RdT.nil,fun j n e=>by cases e; exact .inl ⟨rfl,rfl⟩⟩
 | some y =>
   obtain ⟨rt,v,h,hr,he⟩:=xk h;exact ⟨rt,v,h,hr,fun j n e=>by subst e; exact .inr ⟨y,j,rfl,he⟩⟩
theorem xvh {t:Nat} {x:Operand} {lo hi mx:Option Operand} (ho:o.op=.slice t x lo hi mx) (h:opP E uid st o k):OpOk E uid st o k:=by
 simp only [opP,ho] at h
 split at h
 · split at h
   · exact h.elim
   · replace h:=xk h;obtain ⟨rt,v,h,hr,he⟩:=h;replace h:=k9 h;obtain ⟨rt1,a,h,hr1,he1⟩:=h;replace h:=xk h;obtain ⟨rt2,b,h,hr2,he2⟩:=h;replace h:=xk h;obtain ⟨rt3,c,h,hr3,he3⟩:=h
     split at h
     · replace h:=qc hE h;obtain ⟨e,hu,h⟩:=h;replace h:=zf hE h;obtain ⟨ti,hT,_,h⟩:=h;replace h:=yi h;obtain ⟨ro,h,hro,hal⟩:=h
       split at h
       · rename_i hte;have:=xz2 hte;subst this;obtain ⟨h0,h1,h2,rfl,h⟩:=h;exact ⟨_,h,xnf ho hu hT he hal (he1 _ _ rfl) he2 he3 h0 h1 h2,RdT.append.2 ⟨RdT.append.2 ⟨RdT.append.2 ⟨hr,hr1⟩,hr2⟩,hr3⟩,hro⟩
       · exact h.elim
     · exact h.elim
 · replace h:=xk h;obtain ⟨rt,v,h,hr,he⟩:=h;replace h:=k9 h;obtain ⟨rt1,a,h,hr1,he1⟩:=h
   split at h
   · rename_i l;have hlo:=he1 _ _ rfl
     split at h
     ·
       replace h:=zf hE h;obtain ⟨ti,hT,_,h⟩:=h
       split at h
       · rename_i hd hz;replace h:=k9 h;obtain ⟨rt2,b,h,hr2,he2⟩:=h
         split at h
         · obtain ⟨h0,h1,h2,h⟩:=h;exact ⟨_,h,xnc ho (tiS hT hd hz) he hlo (he2 _ _ rfl) h0 h1 h2,RdT.append.2 ⟨RdT.append.2 ⟨hr,hr1⟩,hr2⟩,RdO.nil⟩
         · exact h.elim
       · exact h.elim
     ·
       replace h:=qc hE h;obtain ⟨e,hu,h⟩:=h;replace h:=zf hE h;obtain ⟨ti,hT,_,h⟩:=h;replace h:=yi h;obtain ⟨ro,h,hro,hal⟩:=h;replace h:=k9 h;obtain ⟨rt2,b,h,hr2,he2⟩:=h
       split at h
       · rename_i hte;have:=xz2 hte;subst this;obtain ⟨h0,h1,h2,h⟩:=h;exact ⟨_,h,xnd ho hu hT he hal hlo (he2 _ _ rfl) h0 h1 h2,RdT.append.2 ⟨RdT.append.2 ⟨hr,hr1⟩,hr2⟩,hro⟩
       · exact h.elim
     ·
       split at h
       · rename_i te rows p hob;replace h:=qc hE h;obtain ⟨e,hu,h⟩:=h;replace h:=zf hE h;obtain ⟨ti,hT,_,h⟩:=h;replace h:=k9 h;obtain ⟨rt2,b,h,hr2,he2⟩:=h
         split at h
         · rename_i hte;have:=xz2 hte;subst this;obtain ⟨h0,h1,h2,h⟩:=h
           split at h
           · obtain ⟨rfl,h⟩:=h;exact ⟨_,h,xnh ho hu hT he hlo (he2 _ _ rfl) h1 h2,RdT.append.2 ⟨RdT.append.2 ⟨hr,hr1⟩,hr2⟩,RdO.cons.2 ⟨hob,RdO.nil⟩⟩
           · exact ⟨_,h,xng ho hu hT he hlo (he2 _ _ rfl) h0 h1 h2,RdT.append.2 ⟨RdT.append.2 ⟨hr,hr1⟩,hr2⟩,RdO.cons.2 ⟨hob,RdO.nil⟩⟩
         · exact h.elim
       · exact h.elim
     · exact h.elim
   · exact h.elim
theorem xkz {s f:Nat} {x:Operand} (ho:o.op=.fieldAddr s x f) (h:opP E uid st o k):OpOk E uid st o k:=by
 simp only [opP,ho] at h
 split at h
 · rename_i fs n z hs;have hT:=wg hE hs
   split at h
   · rename_i fo ft hf;replace h:=xk h;obtain ⟨rt,v,h,hr,he⟩:=h
     split at h
     · split at h
       · rename_i ob hob;exact ⟨_,h,xna ho hT hf he,hr,RdO.cons.2 ⟨hob,RdO.nil⟩⟩
       · exact h.elim
     · replace h:=yi h;obtain ⟨ro,h,hro,hal⟩:=h;exact ⟨_,h,xnb ho hT hf he hal,hr,hro⟩
     · exact h.elim
   · exact h.elim
 · exact h.elim
theorem xvi {s f:Nat} {x:Operand} (ho:o.op=.field s x f) (h:opP E uid st o k):OpOk E uid st o k:=by
 simp only [opP,ho] at h
 split at h
 · rename_i fs n z hs;have hT:=wg hE hs
   split at h
   · rename_i fo ft hf;replace h:=zf hE h;obtain ⟨ti,hti,_,h⟩:=h;replace h:=xk h;obtain ⟨rt,v,h,hr,he⟩:=h
     split at h
     · split at h
       · rename_i hl;rw [xq] at h;exact ⟨_,h,xqa ho hT hf hti he hl,hr,RdO.nil⟩
       · exact h.elim
     · exact h.elim
   · exact h.elim
 · exact h.elim
theorem xk0 {t:Nat} {x ix:Operand} (ho:o.op=.indexAddr t x ix) (h:opP E uid st o k):OpOk E uid st o k:=by
 simp only [opP,ho] at h;replace h:=xk h;obtain ⟨rt,v,h,hr,he⟩:=h;replace h:=xk h;obtain ⟨rt',w,h,hr',he'⟩:=h
 split at h
 · replace h:=qc hE h;obtain ⟨e,hu,h⟩:=h;replace h:=zf hE h;obtain ⟨ti,hT,_,h⟩:=h
   split at h
   · split at h
     · rename_i hte;replace h:=yi h;obtain ⟨ro,h,hro,hal⟩:=h;obtain ⟨h0,row,hrow,h⟩:=h;exact ⟨_,h,xsm ho hu ⟨ti,hT⟩ (xz2 hte) he he' hal h0 hrow,RdT.append.2 ⟨hr,hr'⟩,hro⟩
     · exact h.elim
   · split at h
     · rename_i te rows p hob
       split at h
       · rename_i hte;obtain ⟨h0,hlt,h⟩:=h;exact ⟨_,h,xsn ho hu ⟨ti,hT⟩ (xz2 hte) he he' h0 hlt,RdT.append.2 ⟨hr,hr'⟩,RdO.cons.2 ⟨hob,RdO.nil⟩⟩
       · exact h.elim
     · exact h.elim
   · exact h.elim
 · exact h.elim
theorem xvj {t:Nat} {x ix:Operand} (ho:o.op=.index t x ix) (h:opP E uid st o k):OpOk E uid st o k:=by
 simp only [opP,ho] at h;replace h:=xk h;obtain ⟨rt,v,h,hr,he⟩:=h;replace h:=xk h;obtain ⟨rt',w,h,hr',he'⟩:=h
 split at h
 · replace h:=zf hE h;obtain ⟨ti,hT,_,h⟩:=h
   split at h
   · rename_i hd hz;obtain ⟨h0,b,hb,h⟩:=h;exact ⟨_,h,xp9 ho (tiS hT hd hz) he he' h0 hb,RdT.append.2 ⟨hr,hr'⟩,RdO.nil⟩
   · exact h.elim
 · exact h.elim
end
end Go.AM
end
section
namespace Go.AM
open Go
def Held (st:St) (pl:Pl) (ps:List Plc):Prop:=∀ p∈ps,lk st.s p.n=some p.o/\pl.hdr p.n=p.h/\pl.adr p.n=p.ad/\pl.own p.n=p.f
theorem Held.append {st:St} {pl:Pl} {ps qs:List Plc}:Held st pl (ps++qs)↔Held st pl ps/\Held st pl qs :=
 ⟨fun h=>⟨fun p hp=>h p (xzt _ hp),fun p hp=>h p (xzz _ hp)⟩,fun h p hp=>(xzs.1 hp).elim (h.1 p) (h.2 p)⟩
structure Places (P:Program) (w':World) (Z2:Nat->Prop) (lent:List Nat) (us:List Nat) (ps:List Plc) (ff f:List Nat) (val:St->Pl->(Nat->Prop)->Prop):Prop where
 nd:∀ p∈ps,p.f.Nodup/\∀ b∈p.f,b∈f/\b ∉ ff
 dj:∀ p∈ps,∀ q∈ps,p.n≠q.n->∀ b∈p.f,b ∉ q.f
 box:∀ p∈ps,∀ row,p.o=.box row->p.ad.1∈p.f
 sub:∀ b∈ff,b∈f
 rd:∀ st pl Zn,(∀ b,Z2 b->Sup pl Zn lent b)->(∀ b∈ff,Zn b)->Held st pl ps->(∀ p∈ps,ObR P st pl Zn w' p.n p.o/\p.o.inU us=true)/\val st pl Zn
section
variable {P:Program} {w':World} {Z2:Nat->Prop} {lent us:List Nat}
theorem xa1 {kp:Bool} {n:Nat} {cs:List AV} {xs:List Value} {fs:List (List Nat)} (k1:xs.length=cs.length) (k2:fs.length=cs.length) (hnd:fs.flatten.Nodup)
 (how:∀ (k:Nat) (av:AV) (x:Value) (g:List Nat),cs[k]?=some av->xs[k]?=some x->fs[k]?=some g->Ow P w' Z2 av x g) (hke:keptOk kp lent cs True) (hlu:∀ m∈lent,memN (m / 64) us=true) (hnu:∀ p∈fplc kp n cs xs fs,memN (p.n / 64) us=true) :
 Places P w' Z2 lent us (fplc kp n cs xs fs) (bif kp then [] else fs.flatten) fs.flatten fun st pl Zn=>Ars P st pl Zn w' (fresh kp lent n cs).1 xs/\(fresh kp lent n cs).1.all (AV.inU us)=true:=by
 refine ⟨fun p hp=>?_,fun p hp q hq hne b hb=>?_,fun p hp row hr=>?_,fun b hb=>?_,fun st pl Zn hsup hff hh=>⟨fun p hp=>?_,xea k1 k2 how hsup (fun hk b hb=>hff b (by rw [hk]; exact hb)) (fun p hp=>⟨(hh p hp).2.1,(hh p hp).1⟩),xeb hlu fun hk k t rows h1=>?_⟩⟩
 · obtain ⟨hk,k,t,rows,x,f,h1,h2,h3,rfl⟩:=ye hp;exact ⟨(qr hnd).1 _ (xzy h3),fun b hb=>⟨yn h3 b hb,by rw [hk]; exact x0o⟩⟩
 · obtain ⟨hk,k,t,rows,x,f,h1,h2,h3,rfl⟩:=ye hp;obtain ⟨_,k',t',rows',x',f',h1',h2',h3',rfl⟩:=ye hq;intro hb';have hkk:k≠k':=fun e=>hne (by rw [e]);have hp2:=(qr hnd).2;rw [x15] at hp2;obtain ⟨i1,e1⟩:=xzm.1 h3;obtain ⟨i2,e2⟩:=xzm.1 h3';simp only at hb hb';rcases x3r hkk with h|h
   · exact hp2 k k' i1 i2 h _ (by rw [e1]; exact hb) (by rw [e2]; exact hb')
   · exact hp2 k' k i2 i1 h _ (by rw [e2]; exact hb') (by rw [e1]; exact hb)
 · obtain ⟨hk,k,t,rows,x,f,h1,h2,h3,rfl⟩:=ye hp; cases hr
 · cases kp
   · exact hb
   · cases hb
 · obtain ⟨o1,o2,_,o4⟩:=hh p hp;obtain ⟨hk,k,t,rows,x,f,h1,h2,h3,rfl⟩:=ye hp;have hO:=how k _ x f h1 h2 h3;refine ⟨?_,rfl⟩;show Ow P w' Zn (.sl t rows) _ _;rw [o2,o4];by_cases hl:lent=[]
   · exact hO.mono (fun b hb=>by rcases hsup b hb with h|⟨m,hm,_⟩; exact h; rw [hl] at hm; cases hm) (fun _ _=>rfl) (fun _ _=>rfl)
   · exact hO.primRows ((xb5 hke).2 hk hl t rows (xzy h1))
 · have hkl:k<cs.length:=(xzm.1 h1).1;have:=xck (kp:=kp) hk (n:=n) h1 (xzh (k1▸hkl)) (xzh (k2▸hkl));exact hnu _ this
theorem xhd {res:TV} {v:Value} {f:List Nat} (hres:ResR P w' Z2 res v f) (hnd:f.Nodup) {kp:Bool} {n:Nat} (hkp:keptV kp lent res True) (hlu:∀ m∈lent,memN (m / 64) us=true)
 (hnu:∀ p∈(freshV kp lent n res).2,memN (p.1 / 64) us=true) (hu:uniqN (names (freshV kp lent n res).2)=true) :
 ∃ ps ff,(freshV kp lent n res).2=ps.map (fun p=>(p.n,p.o))/\Places P w' Z2 lent us ps ff f fun st pl Zn=>Tr P st pl Zn w' (freshV kp lent n res).1 v/\(freshV kp lent n res).1.inU us=true:=by
 rcases xkx hres kp lent n with ⟨cs,xs,fs,k1,k2,rfl,k4,k5,k6,k7,k8⟩|⟨row,b,o0,c,ty,fs,rfl,k2,k3,k4,rfl,k6,k7,k8⟩
 · have hmap:=vg (kp:=kp) (lent:=lent) (n:=n) k1 k2;refine ⟨fplc kp n cs xs fs,bif kp then [] else fs.flatten,by rw [hmap]; exact k5,?_⟩;have:=xa1 (n:=n) (us:=us) k1 k2 hnd k4 (by rw [<- k6]; exact hkp) hlu (fun p hp=>hnu (p.n,p.o) (by rw [k5,<- hmap]; exact xzv.2 ⟨p,hp,rfl⟩))
   exact ⟨this.nd,this.dj,this.box,this.sub,fun st pl Zn h1 h2 h3=>by
    obtain ⟨g1,g2,g3⟩:=this.rd st pl Zn h1 h2 h3
    exact ⟨g1,k8 _ _ _ g2,k7 _ g3⟩⟩
 · obtain ⟨xs0,hxs0⟩:∃ xs0,xs0=(c.toList.drop o0).take row.length:=⟨_,rfl⟩;have hcl:xs0.length=row.length:=by rw [hxs0]; simp; omega
   have hxg:∀ k,k<row.length->xs0[k]?=c[o0+k]?:=fun k hk=>by rw [hxs0,xz7,if_pos hk,x0p]; simp
   clear hxs0;have hmap:=vg (kp:=kp) (lent:=lent) (n:=n+1) (xs:=xs0) hcl k4;have hbn:b ∉ fs.flatten:=(x0x.1 hnd).1;have hfn:fs.flatten.Nodup:=(x0x.1 hnd).2;let bx:Plc:=⟨n,.box (fresh kp lent (n+1) row).1,undef,(b,o0),[b]⟩;have hpe:(freshV kp lent n res).2=(bx::fplc kp (n+1) row xs0 fs).map fun p=>(p.n,p.o):=by rw [k7]; simp only [x0d,hmap,bx]
   have hnu':∀ p∈bx::fplc kp (n+1) row xs0 fs,memN (p.n / 64) us=true:=fun p hp=>hnu (p.n,p.o) (by rw [hpe]; exact xzv.2 ⟨p,hp,rfl⟩);have k6':∀ (k:Nat) (av:AV) (x:Value) (g:List Nat),row[k]?=some av->xs0[k]?=some x->fs[k]?=some g->Ow P w' Z2 av x g:=fun k av x g h1 h2 h3=>k6 k av x g h1 (by rw [<- hxg k (xzm.1 h1).1]; exact h2) h3;have H:=xa1 (n:=n+1) (us:=us) hcl k4 hfn k6' (by rw [<- k8]; exact hkp) hlu (fun p hp=>hnu' p (xzp _ hp));refine ⟨bx::fplc kp (n+1) row xs0 fs,bif kp then [] else fs.flatten,hpe,⟨fun p hp=>?_,fun p hp q hq hne b' hb=>?_,fun p hp row hr=>?_,fun b' hb=>xzp _ (H.sub b' hb),fun st pl Zn h1 h2 h3=>?_⟩⟩
   · rcases xzn.1 hp with rfl|hp
     · refine ⟨by simp [bx],fun b' hb=>?_⟩;rw [xzq.1 hb];refine ⟨xz5 ..,?_⟩;cases kp
       · exact hbn
       · exact x0o
     · obtain ⟨g1,g2⟩:=H.nd p hp;exact ⟨g1,fun b' hb=>⟨xzp _ (g2 b' hb).1,(g2 b' hb).2⟩⟩
   · rcases xzn.1 hp with rfl|hp<;>rcases xzn.1 hq with rfl|hq
     · exact absurd rfl hne
     · rw [xzq.1 hb];exact fun h=>hbn ((H.nd q hq).2 _ h).1
     · exact fun h=>hbn (by rw [<- xzq.1 h]; exact ((H.nd p hp).2 _ hb).1)
     · exact H.dj p hp q hq hne b' hb
   · rcases xzn.1 hp with rfl|hp
     · exact xzq.2 rfl
     · exact H.box p hp row hr
   · obtain ⟨g1,g2,g3⟩:=H.rd st pl Zn h1 h2 fun p hp=>h3 p (xzp _ hp);obtain ⟨o1,_,o2,o3⟩:=h3 bx (xz5 ..);refine ⟨fun p hp=>?_,?_,?_⟩
     · rcases xzn.1 hp with rfl|hp
       · refine ⟨⟨by rw [o2,o3],c,ty,by rw [o2]; exact k2,by rw [o2]; simp [zj,bx]; exact k3,fun k av y hk hy=>?_⟩,g3⟩;rw [o2] at hy;exact g2.2 k av y hk (by rw [hxg k (by have:=(xzm.1 hk).1; rwa [zj] at this)]; exact hy)
       · exact g1 p hp
     · rw [show (freshV kp lent n res).1=.one (.ptr n 0 0) by rw [k7]];intro o' ho';have:o'=.box (fresh kp lent (n+1) row).1:=x0f (ho'.symm.trans o1);subst this;simp only [ptrAt];rw [o2];rfl
     · rw [show (freshV kp lent n res).1=.one (.ptr n 0 0) by rw [k7]];exact hnu' bx (xz5 ..)
end
section
variable {P:Program} {cx:Cx} {st:St} {a:Act} {w:World} {pl:Pl} {Z:Nat->Prop}
theorem xfs (R:Rel P cx st a w pl Z) {dst:Option Nat} {uid:Nat} {pk:Pk} {ps:List Plc} {lent fin:List Nat} {cio:Option Io} (hok:okPk st uid pk=true) (hput:pk.put=ps.map fun p=>(p.n,p.o))
 (hlent:∀ m∈lent,st.has m/\∀ p∈ps,p.n≠m) (hold:∀ p∈ps,∀ o,lk st.s p.n=some o->o.like p.o/\p.h=pl.hdr p.n/\p.ad=pl.adr p.n)
 (hW:∀ b,(b∈fin\/∃ i,cio=some i/\b=i.b)->Wr st pl pk b) (hfa:∀ b∈fin,∀ i,cx.io=some i->b≠i.b)
 (hcan:∀ j,cx.io=some j->∀ i,cio=some i->j.b=i.b->∀ k,i.can k->j.can k)
 {w':World} {Z2:Nat->Prop} {ff f:List Nat} {v:Value} (hF:Frm w w' fin cio) (hZ:∀ b,Sup pl Z lent b->Z2 b) (hZ2:∀ b,Z2 b->(Sup pl Z lent b\/b∈fin\/w.heap.size<=b)/\b<w'.heap.size)
 (hf:∀ b∈f,(b∈fin\/w.heap.size<=b)/\b<w'.heap.size/\¬ Z2 b) (hff:∀ b∈ff,b∈f)
 (hb:∀ p∈ps,p.f.Nodup/\∀ b∈p.f,b ∉ ff/\(b∈f\/(Wr st pl pk b/\b<w'.heap.size/\¬ Z2 b/\¬ Z b)))
 (hdj:∀ p∈ps,∀ q∈ps,p.n≠q.n->∀ b∈p.f,b ∉ q.f)
 (hbox:∀ i,cx.io=some i->∀ p∈ps,∀ row,p.o=.box row->p.ad.1=i.b->p.ad.2=i.o/\row.map (fun a=>!a.isNa)=i.m)
 (harr:∀ i,cx.io=some i->∀ p∈ps,(∃ t rows q,p.o=.arr t rows q)->i.b ∉ p.f)
 (hob:(∀ b,Z2 b->Sup (over pl ps) (ZNew Z Z2 fin ff w.heap.size) lent b)->Held (apply st dst uid pk) (over pl ps) ps->∀ p∈ps,ObR P (apply st dst uid pk) (over pl ps) (ZNew Z Z2 fin ff w.heap.size) w' p.n p.o/\p.o.inU (uid::st.u)=true)
 (hval:(∀ b,Z2 b->Sup (over pl ps) (ZNew Z Z2 fin ff w.heap.size) lent b)->Held (apply st dst uid pk) (over pl ps) ps->Tr P (apply st dst uid pk) (over pl ps) (ZNew Z Z2 fin ff w.heap.size) w' pk.val v/\pk.val.inU (uid::st.u)=true) :
 Step P cx st w pl Z dst uid pk v w' (over pl ps) (ZNew Z Z2 fin ff w.heap.size):=by
 have hnm:names pk.put=ps.map (·.n):=by rw [hput,yd]
 have hu':uniqN (ps.map (·.n))=true:=by have:=y7 hok; rw [<- hnm]; exact this
 have chg:Chg w w' (Wr st pl pk):=⟨hF.os,hF.tape,hF.output,hF.size,fun k hk hnk=>hF.blk k hk (fun h=>hnk (hW k (.inl h))) fun i hi e=>hnk (hW k (.inr ⟨i,hi,e⟩))⟩;have hWm:∀ b,Wr st pl pk b->b<w.heap.size/\¬ Z b/\cx.may b:=by
  rintro b ⟨n,_,hn,hb⟩;exact R.lt n hn b hb
 have hmay:∀ b,(b∈fin\/w.heap.size<=b)->cx.mayZ b:=by
  intro b hb;rcases hb with hb|hb
  · obtain ⟨h1,h2,h3⟩:=hWm b (hW b (.inl hb));refine ⟨?_,hfa b hb⟩;rcases h3 with h|⟨i,hi,e⟩|h
    · exact .inr (.inl h)
    · exact absurd e (hfa b hb i hi)
    · exact .inr (.inr h)
  · exact ⟨.inr (.inr (x1r R.fr.size hb)),fun i hi e=>by have:=xfg R hi; omega⟩
 have hsup:∀ b,Z2 b->Sup (over pl ps) (ZNew Z Z2 fin ff w.heap.size) lent b:=by
  intro b hb;rcases (hZ2 b hb).1 with (h|⟨m,hm,h⟩)|h|h
  · exact .inl (.inl h)
  · refine .inr ⟨m,hm,?_⟩;rw [(xc1 (pl:=pl) (ps:=ps) (n:=m) (fun hmm=>?_)).2.2]
    · exact h
    · obtain ⟨p,hp,e⟩:=xzv.1 hmm;exact (hlent m hm).2 p hp e
  · exact .inl (.inr (.inl ⟨hb,.inl h⟩))
  · exact .inl (.inr (.inl ⟨hb,.inr h⟩))
 have hheld:Held (apply st dst uid pk) (over pl ps) ps:=fun p hp=>⟨wh hput hu' hp,xx hu' hp⟩;have hfrm:Frm cx.w0 w' cx.own0 cx.io:=by
  refine ⟨hF.os.trans R.fr.os,hF.tape.trans R.fr.tape,hF.output.trans R.fr.output,x1r R.fr.size hF.size,fun k hk h1 h2=>?_,fun j hj=>?_⟩
  · have hnw:¬ Wr st pl pk k:=fun h=>by
     rcases (hWm k h).2.2 with h|⟨i,hi,e⟩|h
     · exact h1 h
     · exact h2 i hi e
     · omega
    rw [chg.blk k (x1c hk R.fr.size) hnw];exact R.fr.blk k hk h1 h2
  · obtain ⟨c,c',ty,e1,e2,e3,e4⟩:=R.fr.iob j hj;have hjl:=(x0t.1 e2).1;by_cases hex:∃ i,cio=some i/\j.b=i.b
    · obtain ⟨i,hi,hb⟩:=hex;obtain ⟨d,d',ty',g1,g2,g3,g4⟩:=hF.iob i hi;rw [<- hb,e2] at g1;simp only [x0g,Obj.cells.injEq,x29] at g1;obtain ⟨rfl,rfl⟩:=g1;refine ⟨c,d',ty,e1,by rw [hb]; exact g2,by omega,fun k hk=>?_⟩;rw [<- e4 k hk];exact g4 k fun h=>hk (hcan j hj i hi hb k h)
    · refine ⟨c,c',ty,e1,?_,e3,e4⟩;rw [hF.blk j.b hjl (fun h=>hfa _ h j hj rfl) fun i hi e=>hex ⟨i,hi,e⟩];exact e2
 refine Step.of R hok ps hput chg hfrm hold (fun b h=>.inl h) (fun b h=>?_) (fun p hp=>?_) hdj (fun d _=>hval hsup hheld) hbox harr
 · rcases h with h|⟨h1,h2⟩|h
   · exact .inl h
   · exact .inr ⟨h2.imp_left fun h=>hW b (.inl h),(hZ2 b h1).2,hmay b h2⟩
   · obtain ⟨h1,h2,_⟩:=hf b (hff b h);exact .inr ⟨h1.imp_left fun h=>hW b (.inl h),h2,hmay b h1⟩
 · obtain ⟨h1,h2⟩:=hob hsup hheld p hp;obtain ⟨h3,h4⟩:=hb p hp;refine ⟨h1,h3,h2,fun b hbf=>?_⟩;obtain ⟨g4,g⟩:=h4 b hbf;rcases g with g|⟨g1,g2,g3,g5⟩
   · obtain ⟨k1,k2,k3⟩:=hf b g;refine ⟨k2,?_,?_⟩
     · rintro (h|⟨h,_⟩|h)
       · exact k3 (hZ b (.inl h))
       · exact k3 h
       · exact g4 h
     · rcases k1 with h|h
       · exact .inr (hW b (.inl h))
       · exact .inl h
   · refine ⟨g2,?_,.inr g1⟩;rintro (h|⟨h,_⟩|h)
     · exact g5 h
     · exact g3 h
     · exact g4 h
end
end Go.AM
end
section
namespace Go.AM
open Go
theorem xsy {P:Program} {w:World} {Z:Nat->Prop} {io:Option Io} {ins:List (Mode × TV)} {vals:List Value} {outs:List TV} {g:List Nat} (h:OutsR P w Z io ins vals outs g) (he:outs=[]):g=[]:=by
 induction h with
 | nil=>rfl
 | pure _ ih=>exact ih he
 | own _ ih=>exact ih he
 | _=>cases he
theorem ja {st:St}:∀ {seg:List AV} {del:List Nat} {k:List AV->List Nat->List (Nat × Ob)->List Nat->Prop},ioBox st seg del k ->
 ∃
  (cs:List AV) (ns:List Nat) (ro:List (Nat × Ob)) (ds:List Nat),k cs ns ro (ds.reverse++del)/\RdO ro st/\cs.length=seg.length/\(∀ n∈ns,∃ o,lk ro n=some o)/\ds.Nodup/\(∀ m∈ds,m ∉ del)/\(∀ m∈ds,∃ t rows,lk ro m=some (.arr t rows false)) /\
  (cs.map AV.isNa=seg.map AV.isNa) /\
  ∀
   (P:Program) (cx:Cx) (st':St) (a:Act) (w:World) (pl:Pl) (Z S:Nat->Prop),Rel P cx st' a w pl Z->RdO ro st'->(∀ b,Sup pl Z ns b->S b)->∀ xs,Ars P st' pl Z w seg xs ->
   ∃ fs:List (List Nat),fs.length=cs.length/\fs.flatten=ds.flatMap pl.own/\∀ (k:Nat) (av:AV) (x:Value) (f:List Nat),cs[k]?=some av->xs[k]?=some x->fs[k]?=some f->(av=.na/\f=[])\/Ow P w S av x f
 | [],del,k,h=>⟨[],[],[],[],h,RdO.nil,rfl,by simp,x09,by simp,by simp,rfl,fun P cx st' a w pl Z S R hr hS xs hx=>⟨[],rfl,rfl,by simp⟩⟩
 | c::r,del,k,h=>by
   cases c with
   | na =>
     simp only [ioBox] at h;obtain ⟨cs,ns,ro,ds,h,h1,h2,h3,h4,h5,h6,h7,h8⟩:=ja h;refine ⟨.na::cs,ns,ro,ds,h,h1,by simp [h2],h3,h4,h5,h6,by rw [x0d,x0d,h7],fun P cx st' a w pl Z S R hr hS xs hx=>?_⟩
     match xs,hx with
     | [],hx=>exact absurd hx.1 (by simp)
     | x::xs,hx =>
       obtain ⟨fs,e1,e2,e3⟩:=h8 P cx st' a w pl Z S R hr hS xs ⟨by simpa using hx.1,fun k av y hk hy=>hx.2 (k+1) av y (by simpa using hk) (by simpa using hy)⟩;refine ⟨[]::fs,by simp [e1],by simpa using e2,fun k av y f hk hy hf=>?_⟩
       cases k with
       | zero=>simp at hk hy hf; subst hk; subst hf; exact .inl ⟨rfl,rfl⟩
       | succ k=>exact e3 k av y f (by simpa using hk) (by simpa using hy) (by simpa using hf)
   | prim v =>
     simp only [ioBox] at h;obtain ⟨cs,ns,ro,ds,h,h1,h2,h3,h4,h5,h6,h7,h8⟩:=ja h;refine ⟨.prim v::cs,ns,ro,ds,h,h1,by simp [h2],h3,h4,h5,h6,by rw [x0d,x0d,h7],fun P cx st' a w pl Z S R hr hS xs hx=>?_⟩
     match xs,hx with
     | [],hx=>exact absurd hx.1 (by simp)
     | x::xs,hx =>
       obtain ⟨fs,e1,e2,e3⟩:=h8 P cx st' a w pl Z S R hr hS xs ⟨by simpa using hx.1,fun k av y hk hy=>hx.2 (k+1) av y (by simpa using hk) (by simpa using hy)⟩;refine ⟨[]::fs,by simp [e1],by simpa using e2,fun k av y f hk hy hf=>?_⟩
       cases k with
       | zero=>simp at hk hy hf; subst hk; subst hy; subst hf; obtain ⟨rfl,h⟩:=hx.2 0 _ _ rfl rfl; exact .inr (.prim h)
       | succ k=>exact e3 k av y f (by simpa using hk) (by simpa using hy) (by simpa using hf)
   | fr ms t rows =>
     simp only [ioBox] at h;obtain ⟨ro0,h,a1,a2⟩:=vy h;obtain ⟨cs,ns,ro,ds,h,h1,h2,h3,h4,h5,h6,h7,h8⟩:=ja h;have hro6:∀ m∈ds,∃ t rows,lk (ro0++ro) m=some (.arr t rows false):=fun q hq=>by
      rw [jr];obtain ⟨t,rows,e⟩:=h6 q hq
      cases hl:lk ro0 q with
      | none=>exact ⟨t,rows,by simpa using e⟩
      | some o =>
        have e1:=a1.mem hl;have e2:=h1.mem e;rw [e1] at e2;exact ⟨t,rows,by simpa using e2⟩
     refine ⟨.fr [] t rows::cs,ms++ns,ro0++ro,ds,h,RdO.append.2 ⟨a1,h1⟩,by simp [h2],kc a2 h3,h4,h5,hro6,by rw [x0d,x0d,h7]; rfl,fun P cx st' a w pl Z S R hr hS xs hx=>?_⟩;obtain ⟨hr1,hr2⟩:=RdO.append.1 hr
     match xs,hx with
     | [],hx=>exact absurd hx.1 (by simp)
     | x::xs,hx =>
       obtain ⟨fs,e1,e2,e3⟩:=h8 P cx st' a w pl Z S R hr2 (fun b hb=>hS b (Sup.mono (fun n hn=>xzz _ hn) hb)) xs ⟨by simpa using hx.1,fun k av y hk hy=>hx.2 (k+1) av y (by simpa using hk) (by simpa using hy)⟩;refine ⟨[]::fs,by simp [e1],by simpa using e2,fun k av y f hk hy hf=>?_⟩
       cases k with
       | zero =>
         simp at hk hy hf; subst hk; subst hy; subst hf;have h0:(∀ n∈ms,st'.has n)->Rd P w (Sup pl Z ms) (.sl t rows) _:=hx.2 0 _ _ rfl rfl;exact .inr <| .fr0 ((h0 (xci hr1 a2)).mono (fun b hb=>hS b (Sup.mono (fun n hn=>xzt _ hn) hb)) fun _ _=>rfl)
       | succ k=>exact e3 k av y f (by simpa using hk) (by simpa using hy) (by simpa using hf)
   | ref m =>
     simp only [ioBox] at h
     split at h
     · rename_i t rows hm hl;obtain ⟨cs,ns,ro,ds,h,h1,h2,h3,h4,h5,h6,h7,h8⟩:=ja h;refine ⟨.sl t rows::cs,ns,(m,.arr t rows false)::ro,m::ds,by simpa using h,RdO.cons.2 ⟨hl,h1⟩,by simp [h2],fun n hn=>?_,x0x.2 ⟨fun hmm=>h5 m hmm (by simp),h4⟩,fun q hq=>?_,fun q hq=>?_,by rw [x0d,x0d,h7]; rfl,fun P cx st' a w pl Z S R hr hS xs hx=>?_⟩
       · obtain ⟨o,ho⟩:=h3 n hn;rw [x4]
         split
         · exact ⟨_,rfl⟩
         · exact ⟨o,ho⟩
       · rcases xzn.1 hq with rfl|hq
         · exact yr.1 hm
         · exact fun hd=>h5 q hq (xzp _ hd)
       · rw [x4]
         split
         · rename_i e; exact ⟨t,rows,rfl⟩
         · rename_i e;rcases xzn.1 hq with rfl|hq
           · exact absurd rfl e
           · exact h6 q hq
       · obtain ⟨hr1,hr2⟩:=RdO.cons.1 hr
         match xs,hx with
         | [],hx=>exact absurd hx.1 (by simp)
         | x::xs,hx =>
           obtain ⟨fs,e1,e2,e3⟩:=h8 P cx st' a w pl Z S R hr2 hS xs ⟨by simpa using hx.1,fun k av y hk hy=>hx.2 (k+1) av y (by simpa using hk) (by simpa using hy)⟩;refine ⟨pl.own m::fs,by simp [e1],by simp [e2],fun k av y f hk hy hf=>?_⟩
           cases k with
           | zero =>
             simp at hk hy hf; subst hk; subst hy; subst hf;have h0:x=pl.hdr m:=hx.2 0 _ _ rfl rfl t rows false hr1;rw [h0];have:=R.obj m _ hr1;exact .inr (Ow.mono this (fun b hb=>hS b (.inl hb)) (fun _ _=>rfl) (fun _ _=>rfl))
           | succ k=>exact e3 k av y f (by simpa using hk) (by simpa using hy) (by simpa using hf)
     · exact h.elim
   | _=>simp only [ioBox] at h
theorem xnm {ks ks':List Nat} {a:AV} (h:keepsL ks a=true) (hk:∀ m∈ks',m∈ks):a.drop ks'=a:=by
 have hit:∀ ns:List Nat,hitN ns ks=false->hitN ns ks'=false:=fun ns h=>xz.2 fun m hm hmk=>xz.1 h m hm (hk m hmk);cases a<;>simp only [keepsL,AV.tag1,x05,AV.drop] at h ⊢
 · rw [hit _ h]; rfl
 · rw [hit _ h]; rfl
 · rename_i f caps;have:anyTag ks' caps=false:=qa.2 fun a ha=>by
    have:=qa.1 h a ha;cases a<;>simp only [AV.tag1] at this ⊢<;>exact hit _ this
   rw [this]; rfl
theorem xvk {kp:Bool} {lent:List Nat} {n:Nat} {cs:List AV}:∀ av∈(fresh kp lent n cs).1,av.isNa=false:=by
 intro av hav;obtain ⟨k,hk,rfl⟩:=x0h.1 hav;have hkl:k<cs.length:=by rw [zj] at hk; exact hk
 obtain ⟨c',h1,h2⟩:=xbp (kp:=kp) (lent:=lent) (n:=n) (xzh hkl);rw [xzh hk] at h1;simp only [x0g] at h1;rw [h1];rcases h2 with ⟨t,rows,e1,e2,rfl⟩|⟨t,rows,e1,e2,rfl⟩|⟨t,rows,e1,rfl⟩|⟨v,e1,rfl⟩|rfl<;>rfl
theorem xsz {row cs:List AV} {off k:Nat} (h:off+cs.length<=row.length):(splice row off cs)[k]?=if off<=k/\k<off+cs.length then cs[k - off]? else row[k]?:=by
 unfold splice;rw [yb,yc];exact xch h
theorem ioAll {P:Program} {w:World} {Z:Nat->Prop} {i:Io} {row:List AV} {f:List Nat} (h:IoR P w Z i row f) (hm:∀ b∈i.m,b=true):∃ (c:Array Value) (ty:Nat) (xs:List Value) (fs:List (List Nat)),w.heap[i.b]?=some (.cells c ty (0,0))/\i.o+row.length<=c.size/\row.length=i.m.length/\fs.length=row.length/\f=fs.flatten /\
 xs.length=row.length/\(∀ k,k<row.length->xs[k]?=c[i.o+k]?)/\∀ (k:Nat) (av:AV) (x:Value) (g:List Nat),row[k]?=some av->xs[k]?=some x->fs[k]?=some g->Ow P w Z av x g:=by
 obtain ⟨h1,c,ty,fs,h2,h3,h4,h5,h6⟩:=h;let xs:List Value:=(c.toList.drop i.o).take row.length;have hxl:xs.length=row.length:=by simp [xs]; omega
 have hxg:∀ k,k<row.length->xs[k]?=c[i.o+k]?:=fun k hk=>by simp only [xs]; rw [xz7,if_pos hk,x0p]; simp
 refine ⟨c,ty,xs,fs,h2,h3,by rw [h1]; simp,h4,h5,hxl,hxg,fun k av x g hk hx hg=>?_⟩;have hkl:=(xzm.1 hk).1;rcases h6 k av g hk hg with ⟨rfl,_⟩|⟨y,hy,h⟩
 · exfalso;have:i.m[k]?=some false:=by rw [h1,xzr,hk]; rfl
   have:=hm _ (xzy this);cases this
 · rw [hxg k hkl,hy] at hx; cases hx; exact h
theorem ioAll' {P:Program} {w:World} {Z:Nat->Prop} {i:Io} {row:List AV} {f:List Nat} (h:IoR P w Z i row f):∃ (c:Array Value) (ty:Nat) (xs:List Value) (fs:List (List Nat)),w.heap[i.b]?=some (.cells c ty (0,0))/\i.o+row.length<=c.size/\i.m=row.map (fun a=>!a.isNa)/\fs.length=row.length/\f=fs.flatten /\
 xs.length=row.length/\(∀ k a,row[k]?=some a->a.isNa=false->xs[k]?=c[i.o+k]?)/\∀ (k:Nat) (av:AV) (x:Value) (g:List Nat),(row.map naP)[k]?=some av->xs[k]?=some x->fs[k]?=some g->Ow P w Z av x g:=by
 obtain ⟨h1,c,ty,fs,h2,h3,h4,h5,h6⟩:=h;refine ⟨c,ty,(List.range row.length).map fun k=>bif (row.getD k .na).isNa then .bool true else c.getD (i.o+k) undef,fs,h2,h3,h1,h4,h5,by simp,fun k a hk hn=>?_,fun k av x g hk hx hg=>?_⟩
 · have hkl:=(xzm.1 hk).1;rw [xzr,x3m hkl];simp only [x0y,xzo,hk,x1v,hn,x2w];rw [x0s,x2r (by omega)]; rfl
 · rw [xzr] at hk
   cases hr:row[k]? with
   | none=>rw [hr] at hk; cases hk
   | some a =>
     rw [hr] at hk;simp only [x0y,x0g] at hk;have hkl:=(xzm.1 hr).1;rw [xzr,x3m hkl] at hx;simp only [x0y,x0g,xzo,hr,x1v] at hx;rcases h6 k a g hr hg with ⟨rfl,rfl⟩|⟨y,hy,h⟩
     · subst hk hx; exact .prim rfl
     · have hna:a.isNa=false:=by cases a<;>first|rfl|(cases h)
       have hnp:naP a=a:=by cases a<;>first|rfl|(cases hna)
       rw [hna] at hx;rw [hnp] at hk;subst hk;simp only [x2w] at hx;rw [x0s,hy] at hx;simp only [x1v] at hx;subst hx; exact h
theorem xhe (lo hi:Nat):∀ (i:Nat) (l:List AV) (k:Nat) (c:AV),(maskIo lo hi i l)[k]?=some c->c=.na\/l[k]?=some c
 | _,[],_,_,h=>by cases h
 | i,a::r,0,c,h=>by
   simp only [maskIo,List.getElem?_cons_zero,x0g] at h;cases h1:Nat.ble lo i<;>rw [h1] at h
   · exact .inl h.symm
   · cases h2:Nat.blt i hi<;>rw [h2] at h
     · exact .inl h.symm
     · exact .inr (by rw [<- h]; rfl)
 | i,a::r,k+1,c,h=>by
   simp only [maskIo,List.getElem?_cons_succ] at h ⊢;exact xhe lo hi (i+1) r k c h
theorem xhf (lo hi:Nat):∀ (i:Nat) (l:List AV),(maskIo lo hi i l).length=l.length
 | _,[]=>rfl
 | i,a::r=>by simp only [maskIo,xz6,xhf lo hi (i+1) r]
theorem xqi (lo hi:Nat) (l:List AV):(maskS lo hi l).length=l.length/\∀ (k:Nat) (c:AV),(maskS lo hi l)[k]?=some c->c=.na\/l[k]?=some c:=by
 cases hi with
 | zero=>exact ⟨rfl,fun k c h=>.inr h⟩
 | succ hi=>exact ⟨xhf _ _ _ _,xhe _ _ _ _⟩
theorem xhg:∀ (bs os ns:List AV),bs.length=os.length->ns.length=os.length->(unmask bs os ns).length=os.length/\∀ (k:Nat) (b:AV),bs[k]?=some b->(unmask bs os ns)[k]?=bif b.isNa then os[k]? else ns[k]?
 | [],[],[],_,_=>⟨rfl,fun k b h=>by cases h⟩
 | b::bs,o::os,n::ns,h1,h2=>by
   obtain ⟨i1,i2⟩:=xhg bs os ns (by simpa using h1) (by simpa using h2)
   cases b<;>refine ⟨by simp [unmask,i1],fun k b h=>?_⟩<;>cases k<;>simp only [unmask,List.getElem?_cons_zero,List.getElem?_cons_succ,x0g] at h ⊢<;>first|(subst h; rfl)|exact i2 _ b h
 | [],_::_,_,h,_=>by simp at h
 | _::_,[],_,h,_=>by simp at h
 | _,[],_::_,_,h=>by simp at h
 | _,_::_,[],_,h=>by simp at h
theorem xk1 {P:Program} {w:World} {Z:Nat->Prop} {i:Io} {lo hi:Nat} {v:TV} {ins:List (Mode × TV)} {vals:List Value} {bs:List AV} {g:List Nat} (h:OutsR P w Z (some i) ((.io lo hi,v)::ins) vals [.agg bs] g):IoR P w Z i bs g:=by
 cases h with
 | io he h t =>
   cases he;have:=xsy t rfl;subst this;rw [x0l]; exact h
section
variable {P:Program} {o:Oper} {uid:Nat}
theorem xqj {c:Call} {fo:Operand} {f:Nat} (ho:o.op=.call c) (hc:c.callee=.value fo) {rt:List (Nat × TV)} {r:List TV} {n off:Nat} {row:List AV}
 (hargs:∀ (cx:Cx) (st:St) (a:Act) (w:World) (pl:Pl) (Z:Nat->Prop),Rel P cx st a w pl Z->RdT rt st->∃ capsV:Array Value,a.eval fo=.func (.func f) #[] capsV/\(c.args.map a.eval++capsV).toList.length=(TV.one (.ptr n 0 off)::r).length /\
   ∀ (j:Nat) (v:TV) (x:Value),(TV.one (.ptr n 0 off)::r)[j]?=some v->(c.args.map a.eval++capsV).toList[j]?=some x->Tr P st pl Z w v x)
 {tn:Nat} (hle:off+tn<=row.length) {mseg:List AV} (hms:mseg.length=(takeC tn (dropC off row)).length/\∀ (k:Nat) (c:AV),mseg[k]?=some c->c=.na\/(takeC tn (dropC off row))[k]?=some c) {st0:St} {cs:List AV} {ns:List Nat} {ro1:List (Nat × Ob)} {ds1:List Nat}
 (hio1:RdO ro1 st0) (hcl:cs.length=mseg.length) (hns:∀ n∈ns,∃ o,lk ro1 n=some o) (hds1:ds1.Nodup) (hda1:∀ m∈ds1,∃ t rows,lk ro1 m=some (.arr t rows false)) (hpat:cs.map AV.isNa=mseg.map AV.isNa)
 (hcells:∀ (P:Program) (cx:Cx) (st':St) (a:Act) (w:World) (pl:Pl) (Z S:Nat->Prop),Rel P cx st' a w pl Z->RdO ro1 st'->(∀ b,Sup pl Z ns b->S b)->∀ xs,Ars P st' pl Z w mseg xs ->
   ∃ fs:List (List Nat),fs.length=cs.length/\fs.flatten=ds1.flatMap pl.own/\∀ (k:Nat) (av:AV) (x:Value) (f:List Nat),cs[k]?=some av->xs[k]?=some x->fs[k]?=some f->(av=.na/\f=[])\/Ow P w S av x f)
 {ins:List (Mode × TV)} {lent ds2:List Nat} {ro2:List (Nat × Ob)} (hg:GathOk st0 r ds1.reverse ins lent ro2 ds2) (hdis:∀ m∈n::(ds2.reverse++ds1.reverse),m ∉ ns++lent) {bs:List AV} {res:TV}
 (hsem:Sem P f ((.io 0 0,.agg cs)::ins) [.agg bs] res) {kp:Bool} (hkb:keptOk true (ns++lent) (bs.map naP) True) (hkp:keptV kp (ns++lent) res True)
 (hkeep:∀ av∈splice row off (unmask bs (takeC tn (dropC off row)) (fresh true (ns++lent) (uid*64+32) (bs.map naP)).1),keepsL (n::(ds2.reverse++ds1.reverse)) av=true)
 (hin1:namesIn uid (fresh true (ns++lent) (uid*64+32) (bs.map naP)).2=true) (hin2:namesIn uid (freshV kp (ns++lent) (uid*64) res).2=true) :
 Good P o uid ⟨rt,(n,.box row)::(ro1++ro2),(freshV kp (ns++lent) (uid*64) res).1,
  (n,.box (splice row off (unmask bs (takeC tn (dropC off row)) (fresh true (ns++lent) (uid*64+32) (bs.map naP)).1)))::((fresh true (ns++lent) (uid*64+32) (bs.map naP)).2++(freshV kp (ns++lent) (uid*64) res).2),ds2.reverse++ds1.reverse⟩:=by
 intro cx st a w pl Z R ht hro hok K Q hK;obtain ⟨capsV,e1,e2,e3⟩:=hargs cx st a w pl Z R ht;have hob:=(RdO.cons.1 hro).1;obtain ⟨hr1,hr2⟩:=RdO.append.1 (RdO.cons.1 hro).2;obtain ⟨_,g2,g3,g4,g5,g6⟩:=hg;have hrun:=xc3 (w:=w) ho hc e1 hsem.1;have hn:st.has n:=by unfold St.has St.O; rw [hob]; rfl
 obtain ⟨hown,cc,ty,hcc,hsz,hrr⟩:=R.obj n _ hob;have hseg:(takeC tn (dropC off row)).length=tn:=by rw [yb,yc]; simp; omega
 have hctn:cs.length=tn:=by rw [hcl,hms.1,hseg]
 generalize hsegE:takeC tn (dropC off row)=seg at *;let L:=ns++lent;let ds:=ds1++ds2;have hdsn:ds.Nodup:=x0j.2 ⟨hds1,g3,fun p hp q hq e=>by subst e; exact g4 p hq (x1w.2 hp)⟩;have hdarr:∀ m∈ds,∃ t rows p,lk st.s m=some (.arr t rows p):=fun m hm=>by
  rcases xzs.1 hm with h|h
  · obtain ⟨t,rows,e⟩:=hda1 m h; exact ⟨t,rows,false,hr1.mem e⟩
  · obtain ⟨t,rows,e⟩:=g5 m h; exact ⟨t,rows,false,hr2.mem e⟩
 have hdh:∀ m∈ds,st.has m:=fun m hm=>by obtain ⟨t,r,p,h⟩:=hdarr m hm; unfold St.has St.O; rw [h]; rfl
 have hdn:∀ m∈ds,m≠n:=fun m hm e=>by obtain ⟨t,r,p,h⟩:=hdarr m hm; rw [e,hob] at h; cases h
 have hLn:∀ m∈L,∃ o,lk (ro1++ro2) m=some o:=kc hns g2;have hLh:∀ m∈L,st.has m:=xci (RdO.append.2 ⟨hr1,hr2⟩) hLn;have hLd:∀ m∈L,m≠n/\m ∉ ds:=fun m hm=>⟨fun e=>hdis n (xz5 ..) (e▸hm),fun h=>hdis m (xzp _ (by simp only [xzs,x1w]; exact (xzs.1 h).symm)) hm⟩;have hlu:∀ m∈L,memN (m / 64) (uid::st.u)=true:=fun m hm=>by
  obtain ⟨o,ho⟩:=hLn m hm;exact qh (R.us m o ((RdO.append.2 ⟨hr1,hr2⟩:RdO (ro1++ro2) st).mem ho)).1
 let S:=Sup pl Z L;let fin:=ds.flatMap pl.own;let i:Io:=⟨(pl.adr n).1,(pl.adr n).2+off,cs.map fun c=>!c.isNa⟩;have hbn:(pl.adr n).1∈pl.own n:=by rw [hown]; exact xzq.2 rfl
 obtain ⟨hbl,hbZ,hbm⟩:=R.lt n hn _ hbn;obtain ⟨x0,xr,hxx⟩:∃ x0 xr,(c.args.map a.eval++capsV).toList=x0::xr:=by
  cases h:(c.args.map a.eval++capsV).toList with
  | nil=>rw [h] at e2; simp at e2
  | cons x0 xr=>exact ⟨x0,xr,rfl⟩
 rw [hxx] at e2 e3;have hx0:x0=.pointer (some ⟨(pl.adr n).1,(pl.adr n).2+off,none⟩):=e3 0 _ x0 rfl rfl _ hob;have hrest:=g6 P cx st a w pl Z S R hr2 (fun b hb=>Sup.mono (fun m hm=>xzz _ hm) hb) (some i) xr (by simpa using e2) fun j v x hv hx=>e3 (j+1) v x (by simpa using hv) (by simpa using hx);let xs:List Value:=((cc.toList.drop ((pl.adr n).2+off)).take tn);have hxl:xs.length=tn:=by simp [xs]; omega
 have hxg:∀ k,k<tn->xs[k]?=cc[(pl.adr n).2+off+k]?:=fun k hk=>by simp only [xs]; rw [xz7,if_pos hk,x0p]; simp
 have hsegg:∀ k av,seg[k]?=some av->row[off+k]?=some av:=fun k av hk=>by
  rw [<- hsegE,yb,yc,xz7] at hk
  split at hk
  · rw [x0p] at hk; exact hk
  · cases hk
 obtain ⟨fs1,f1,f2,f3⟩:=hcells P cx st a w pl Z S R hr1 (fun b hb=>Sup.mono (fun m hm=>xzt _ hm) hb) xs ⟨by rw [hxl,hms.1,hseg],fun k av y hk hy=>by
  rcases hms.2 k av hk with rfl|hk
  · exact True.intro
  have hkt:k<tn:=by rw [<- hxl]; exact (xzm.1 hy).1
  rw [hxg k hkt] at hy
  exact hrr (off+k) av y (hsegg k av hk) (by rw [<- x1m]; exact hy)⟩
 have hins:InsR P w S (some i) ((.io 0 0,.agg cs)::ins) (x0::xr) (fs1.flatten++ds2.flatMap pl.own):=by
  rw [hx0];refine .cons (.io rfl ⟨rfl,cc,ty,fs1,hcc,?_,f1,rfl,fun k av g hk hg=>?_⟩) hrest
  · show (pl.adr n).2+off+cs.length<=cc.size;omega
  · have hkt:k<tn:=by rw [<- hctn]; exact (xzm.1 hk).1
    have hkx:k<xs.length:=by rw [hxl]; exact hkt
    exact (f3 k av _ g hk (xzh hkx) hg).imp_right fun h=>⟨xs[k],by show cc[(pl.adr n).2+off+k]?=_; rw [<- hxg k hkt]; exact xzh hkx,h⟩
 have hfinE:fs1.flatten++ds2.flatMap pl.own=fin:=by rw [f2]; simp only [fin,ds,x1b]
 rw [hfinE] at hins;have hfinb:∀ b∈fin,b<w.heap.size/\¬ S b/\b≠(pl.adr n).1/\∀ j,cx.io=some j->b≠j.b:=by
  intro b hb;obtain ⟨m,hm,hb⟩:=x0i.1 hb;obtain ⟨h1,h2,h3⟩:=R.lt m (hdh m hm) b hb;refine ⟨h1,?_,fun e=>R.dj m n (hdh m hm) hn (hdn m hm) b hb (e▸hbn),fun j hj e=>?_⟩
  · rintro (h|⟨q,hq,h⟩)
    · exact h2 h
    · exact R.dj m q (hdh m hm) (hLh q hq) (fun e=>(hLd q hq).2 (e▸hm)) b hb h
  · obtain ⟨t,rows,p,hl⟩:=hdarr m hm; exact R.ioa j hj m t rows p hl (e▸hb)
 have hSb:∀ b,S b->b<w.heap.size/\b≠(pl.adr n).1:=by
  rintro b (h|⟨q,hq,h⟩)
  · exact ⟨(R.zlt b h).1,fun e=>hbZ (e▸h)⟩
  · exact ⟨(R.lt q (hLh q hq) b h).1,fun e=>R.dj q n (hLh q hq) hn (hLd q hq).1 b h (e▸hbn)⟩
 have hcalls:=hsem.2 w S (some i) _ fin (R.gl.mono (fun b h=>.inl h) fun _ _=>rfl) hins (.inr ⟨0,0,_,xz5 ..⟩) (qq R hdsn hdh)
  (fun b hb=>⟨(hfinb b hb).1,(hfinb b hb).2.1,fun j hj=>by cases hj; exact (hfinb b hb).2.2.1⟩) (fun b hb=>⟨(hSb b hb).1,fun j hj=>by cases hj; exact (hSb b hb).2⟩)
 unfold Oper.wp;rw [hrun,Oper.upon_enter];rw [<- hxx,x1s] at hcalls;refine hcalls.mono ?_;rintro e w' ⟨v,rfl,Z2,ff1,g,hF,hZ,hZ2,hres,hout,hnd,hblk⟩;have hIo:IoR P w' Z2 i bs g:=xk1 hout;obtain ⟨c',ty',xs',fs',q1,q2,q3,q4,rfl,q6,q7,q8⟩:=ioAll' hIo;have hbsl:bs.length=tn:=by have:=congrArg List.length q3; simp only [i,xzi] at this; omega
 have hbsn:∀ (k:Nat) (b:AV),bs[k]?=some b->seg[k]?=none\/∃ c:AV,seg[k]?=some c/\(b.isNa=false->c.isNa=false):=fun k b hb=>by
  cases hs:seg[k]? with
  | none=>exact .inl rfl
  | some c =>
    refine .inr ⟨c,rfl,fun hbn=>?_⟩;have hkt:k<tn:=by rw [<- hseg]; exact (xzm.1 hs).1
    have hmk:k<mseg.length:=by rw [hms.1,hseg]; exact hkt
    have e1:i.m[k]?=some true:=by rw [q3,xzr,hb]; simp [hbn]
    have e2:(cs.map AV.isNa)[k]?=some false:=by
     simp only [i,xzr] at e1 ⊢
     cases hck:cs[k]? with
     | none=>rw [hck] at e1; cases e1
     | some z=>rw [hck] at e1; simpa using e1
    rw [hpat,xzr,xzh hmk] at e2;simp only [x0y,x0g] at e2;rcases hms.2 k _ (xzh hmk) with h|h
    · rw [h] at e2; cases e2
    · rw [hs] at h; cases h; exact e2
 have hbsm:∀ (k:Nat) (b:AV),bs[k]?=some b->i.m[k]?=some (!b.isNa):=fun k b hb=>by rw [q3,xzr,hb]; rfl
 have hum:=xhg bs seg (fresh true L (uid*64+32) (bs.map naP)).1 (by rw [hbsl,hseg]) (by rw [zj,xzi,hbsl,hseg]);obtain ⟨hn1,hn2,hn3⟩:=x0j.1 hnd;let pk:Pk:=⟨rt,(n,.box row)::(ro1++ro2),(freshV kp L (uid*64) res).1,(n,.box (splice row off (unmask bs seg (fresh true L (uid*64+32) (bs.map naP)).1)))::((fresh true L (uid*64+32) (bs.map naP)).2++(freshV kp L (uid*64) res).2),ds2.reverse++ds1.reverse⟩;have hu0:=y7 hok;have huq:uniqN (names (freshV kp L (uid*64) res).2)=true/\uniqN (names pk.put)=true:=by
  refine ⟨?_,hu0⟩;have key:∀ {l l':List Nat},uniqN (l++l')=true->uniqN l'=true:=by
   intro l l' h
   induction l with
   | nil=>exact h
   | cons x l ih =>
     simp only [x30,uniqN] at h;cases hm:memN x (l++l')<;>rw [hm] at h
     · exact ih h
     · cases h
  have h1:names pk.put=(n::names (fresh true L (uid*64+32) (bs.map naP)).2)++names (freshV kp L (uid*64) res).2:=by simp [pk,names]
  exact key (h1▸hu0)
 have q6':xs'.length=(bs.map naP).length:=by rw [xzi]; exact q6
 have q4':fs'.length=(bs.map naP).length:=by rw [xzi]; exact q4
 have hmapq:=vg (kp:=true) (lent:=L) (n:=uid*64+32) (cs:=bs.map naP) (xs:=xs') (fs:=fs') q6' q4';have hnq:∀ p∈fplc true (uid*64+32) (bs.map naP) xs' fs',p.n / 64=uid:=fun p hp=>kd hin1 (p.n,p.o) (by rw [<- hmapq]; exact xzv.2 ⟨p,hp,rfl⟩);have hnr:∀ p∈(freshV kp L (uid*64) res).2,p.1 / 64=uid:=kd hin2;have PQ:=xa1 (P:=P) (w':=w') (Z2:=Z2) (lent:=L) (us:=uid::st.u) (kp:=true) (n:=uid*64+32) q6' q4' hn2 q8 hkb hlu (fun p hp=>vv (hnq p hp));obtain ⟨psR,ffR,hmr,PR⟩:=xhd (us:=uid::st.u) hres hn1 hkp hlu (fun p hp=>vv (hnr p hp)) huq.1;generalize hpsQ:fplc true (uid*64+32) (bs.map naP) xs' fs'=psQ at *;let bx:Plc:=⟨n,.box (splice row off (unmask bs seg (fresh true L (uid*64+32) (bs.map naP)).1)),pl.hdr n,pl.adr n,[(pl.adr n).1]⟩;let ps:List Plc:=bx::(psQ++psR);have hput:pk.put=ps.map fun p=>(p.n,p.o):=by
  show _=(bx::(psQ++psR)).map _;rw [x0d,x0q,hmapq,<- hmr]
 have hufr:memN uid st.u=false:=kk hok (List.cons_ne_nil _ _);have hnew:∀ p∈psQ++psR,p.n / 64=uid/\lk st.s p.n=none:=fun p hp=>by
  have:p.n / 64=uid:=by
   rcases xzs.1 hp with h|h
   · exact hnq p h
   · exact hnr (p.n,p.o) (by rw [hmr]; exact xzv.2 ⟨p,h,rfl⟩)
  exact ⟨this,kl R hufr this⟩
 have hW:∀ b,(b∈fin\/∃ j,some i=some j/\b=j.b)->Wr st pl pk b:=by
  rintro b (hb|⟨j,hj,hb⟩)
  · obtain ⟨m,hm,hb⟩:=x0i.1 hb;exact ⟨m,.inr (by simp only [pk,xzs,x1w]; exact (xzs.1 hm).symm),hdh m hm,hb⟩
  · cases hj;exact ⟨n,.inl (by simp [pk,names]),hn,by rw [hb]; exact hbn⟩
 have hfall:∀ b∈ff1++fs'.flatten,(b∈fin\/w.heap.size<=b)/\b<w'.heap.size/\¬ Z2 b:=fun b hb=>by obtain ⟨h1,h2,h3,_⟩:=hblk b hb; exact ⟨h1,h2,h3⟩
 have hfnb:∀ b∈ff1++fs'.flatten,b≠(pl.adr n).1:=fun b hb e=>(hblk b hb).2.2.2 i rfl e;have hfnj:∀ b∈ff1++fs'.flatten,∀ j,cx.io=some j->b≠j.b:=fun b hb j hj e=>by
  rcases (hfall b hb).1 with h|h
  · exact (hfinb b h).2.2.2 j hj e
  · have:=xfg R hj; omega
 have hsubQ:∀ p∈psQ,∀ b∈p.f,b∈fs'.flatten:=fun p hp b hb=>((PQ.nd p hp).2 b hb).1;have hsubR:∀ p∈psR,∀ b∈p.f,b∈ff1:=fun p hp b hb=>((PR.nd p hp).2 b hb).1;have hdQR:∀ b∈ff1,b ∉ fs'.flatten:=fun b h1 h2=>hn3 b h1 b h2 rfl;obtain ⟨d,d',ty0,k1,k2,k3,k4⟩:=hF.iob i rfl;have hcd:d=cc:=by
  have:some (Obj.cells d ty0 (0,0))=some (Obj.cells cc ty (0,0)):=k1.symm.trans hcc;simp only [x0g,Obj.cells.injEq,x29] at this; exact this.1
 subst hcd;have hdc:d'=c':=by
  have:some (Obj.cells d' ty0 (0,0))=some (Obj.cells c' ty' (0,0)):=k2.symm.trans q1;simp only [x0g,Obj.cells.injEq,x29] at this; exact this.1
 subst hdc;have hul:(unmask bs seg (fresh true L (uid*64+32) (bs.map naP)).1).length=tn:=by rw [hum.1,hseg]
 have hspl:(splice row off (unmask bs seg (fresh true L (uid*64+32) (bs.map naP)).1)).length=row.length:=km (by rw [hul]; exact hle)
 have hspg:∀ k,(splice row off (unmask bs seg (fresh true L (uid*64+32) (bs.map naP)).1))[k]?=if off<=k/\k<off+tn/\(∃ b:AV,bs[k - off]?=some b/\b.isNa=false) then (fresh true L (uid*64+32) (bs.map naP)).1[k - off]? else row[k]?:=fun k=>by
  rw [xsz (by rw [hul]; exact hle),hul]
  split
  · rename_i hk;have hkb:k - off<bs.length:=by omega
    have:=hum.2 (k - off) _ (xzh hkb);rw [this]
    cases hbn:bs[k - off].isNa with
    | true =>
      rw [if_neg (fun h=>by obtain ⟨_,_,b,h1,h2⟩:=h; rw [xzh hkb] at h1; cases h1; rw [hbn] at h2; cases h2)];have hks:k - off<seg.length:=by omega
      have:=hsegg _ _ (xzh hks);rw [show off+(k - off)=k by omega] at this;rw [this]; exact xzh hks
    | false=>rw [if_pos ⟨hk.1,hk.2,_,xzh hkb,hbn⟩]; rfl
  · rename_i hk;rw [if_neg (fun h=>hk ⟨h.1,h.2.1⟩)]
 have hold:∀ p∈ps,∀ o,lk st.s p.n=some o->o.like p.o/\p.h=pl.hdr p.n/\p.ad=pl.adr p.n:=fun p hp o hl=>by
  rcases xzn.1 hp with rfl|hp
  · have:o=.box row:=x0f (hl.symm.trans hob);subst this; exact ⟨trivial,rfl,rfl⟩
  · rw [(hnew p hp).2] at hl; cases hl
 have chg:Chg w w' (Wr st pl pk):=⟨hF.os,hF.tape,hF.output,hF.size,fun k hk hnk=>hF.blk k hk (fun h=>hnk (hW k (.inl h))) fun j hj e=>hnk (hW k (.inr ⟨j,hj,e⟩))⟩;refine hK _ _ _ _ (xfs R (pk:=pk) (ps:=ps) (lent:=L) (fin:=fin) (cio:=some i) (ff:=ffR) (f:=ff1++fs'.flatten) hok hput (fun m hm=>⟨hLh m hm,fun p hp e=>?_⟩) hold hW (fun b hb=>(hfinb b hb).2.2.2) (fun j hj i' hi' hb k hk=>?_) hF hZ (fun b hb=>⟨(hZ2 b hb).1,(hZ2 b hb).2.1⟩) hfall (fun b hb=>xzt _ (PR.sub b hb)) (fun p hp=>?_) (fun p hp q hq hne b hb=>?_) (fun j hj p hp row' hr had=>?_) (fun j hj p hp _ hbi=>?_) (fun hsup hh p hp=>?_) (fun hsup hh=>?_))
 · rcases xzn.1 hp with rfl|hp
   · exact (hLd m hm).1 e.symm
   · have h1:=(hnew p hp).2;have h2:=hLh m hm;unfold St.has St.O at h2;rw [<- e,h1] at h2; cases h2
 · cases hi';obtain ⟨h1,h2⟩:=R.io j hj n row hob hb.symm;obtain ⟨h3,h4⟩:=hk;simp only [i] at h3 h4;refine ⟨by omega,?_⟩;rw [<- h2,<- h1,xzr];have hkl:k - ((pl.adr n).2+off)<tn:=by
    have:=(xzm.1 h4).1;simp only [xzi] at this;omega
   have hk2:k - (pl.adr n).2=off+(k - ((pl.adr n).2+off)):=by omega
   have hk3:k - ((pl.adr n).2+off)<seg.length:=by rw [hseg]; exact hkl
   have hk4:k - ((pl.adr n).2+off)<bs.length:=by rw [hbsl]; exact hkl
   rw [hk2,hsegg _ _ (xzh hk3)];have h5:=hbsm _ _ (xzh hk4);simp only [i] at h5;rw [h4] at h5;rcases hbsn _ _ (xzh hk4) with h|⟨c,h6,h7⟩
   · rw [xzh hk3] at h; cases h
   · rw [xzh hk3] at h6; cases h6;simp only [x0y,h7 (by simpa using h5.symm),x2j]
 · rcases xzn.1 hp with rfl|hp
   · refine ⟨by simp [bx],fun b hb=>?_⟩;have hb:b=(pl.adr n).1:=xzq.1 hb;subst hb;exact ⟨fun h=>hfnb _ (xzt _ (PR.sub _ h)) rfl,.inr ⟨hW _ (.inr ⟨i,rfl,rfl⟩),x1c hbl hF.size,fun h=>(hZ2 _ h).2.2 i rfl rfl,hbZ⟩⟩
   · rcases xzs.1 hp with hp|hp
     · exact ⟨(PQ.nd p hp).1,fun b hb=>⟨fun h=>hdQR b (PR.sub b h) (hsubQ p hp b hb),.inl (xzz _ (hsubQ p hp b hb))⟩⟩
     · exact ⟨(PR.nd p hp).1,fun b hb=>⟨((PR.nd p hp).2 b hb).2,.inl (xzt _ (hsubR p hp b hb))⟩⟩
 · have hnb:∀ q∈psQ++psR,∀ b∈q.f,b≠(pl.adr n).1:=fun q hq b hb=>hfnb b (by
    rcases xzs.1 hq with h|h
    · exact xzz _ (hsubQ q h b hb)
    · exact xzt _ (hsubR q h b hb))
   rcases xzn.1 hp with rfl|hp<;>rcases xzn.1 hq with rfl|hq
   · exact absurd rfl hne
   · rw [xzq.1 hb];exact fun h=>hnb q hq _ h rfl
   · exact fun h=>hnb p hp b hb (xzq.1 h)
   · rcases xzs.1 hp with hp|hp<;>rcases xzs.1 hq with hq|hq
     · exact PQ.dj p hp q hq hne b hb
     · exact fun h=>hdQR b (hsubR q hq b h) (hsubQ p hp b hb)
     · exact fun h=>hdQR b (hsubR p hp b hb) (hsubQ q hq b h)
     · exact PR.dj p hp q hq hne b hb
 · rcases xzn.1 hp with rfl|hp
   · simp only [bx,Ob.box.injEq] at hr;subst hr;obtain ⟨h1,h2⟩:=R.io j hj n row hob had;refine ⟨h1,?_⟩;rw [<- h2];apply x2h;intro k;rw [xzr,xzr,hspg]
     split
     · rename_i hk;obtain ⟨hk,hk',b,hb1,hb2⟩:=hk;have hk1:k - off<(fresh true L (uid*64+32) (bs.map naP)).1.length:=by rw [zj,xzi,hbsl]; omega
       have hk2:k - off<seg.length:=by rw [hseg]; omega
       have:=hsegg _ _ (xzh hk2);rw [show off+(k - off)=k by omega] at this;rw [this,xzh hk1];rcases hbsn _ _ hb1 with h|⟨c,h6,h7⟩
       · rw [xzh hk2] at h; cases h
       · rw [xzh hk2] at h6; cases h6;simp only [x0y,xvk _ (x0m hk1),h7 hb2]
     · rfl
   · exfalso;rcases xzs.1 hp with hp|hp
     · exact hfnj _ (xzz _ (hsubQ p hp _ (PQ.box p hp row' hr))) j hj had
     · exact hfnj _ (xzt _ (hsubR p hp _ (PR.box p hp row' hr))) j hj had
 · rcases xzn.1 hp with rfl|hp
   · rename_i hx;obtain ⟨t,rows,q,e⟩:=hx;cases e
   · rcases xzs.1 hp with hp|hp
     · exact hfnj _ (xzz _ (hsubQ p hp _ hbi)) j hj rfl
     · exact hfnj _ (xzt _ (hsubR p hp _ hbi)) j hj rfl
 · obtain ⟨hh0,hh1⟩:Held (apply st o.dst uid pk) (over pl ps) [bx]/\Held (apply st o.dst uid pk) (over pl ps) (psQ++psR):=⟨fun p hp=>hh p (by rw [xzq.1 hp]; exact xz5 ..),fun p hp=>hh p (xzp _ hp)⟩;obtain ⟨hhQ,hhR⟩:=Held.append.1 hh1;obtain ⟨v1,v2,v3⟩:=PQ.rd _ _ _ hsup (fun b hb=>by cases hb) hhQ;rcases xzn.1 hp with rfl|hp
   · obtain ⟨o1,o2,o3,o4⟩:=hh0 bx (xzq.2 rfl);have N:=stays R (dst:=o.dst) hok hput chg hold (Z':=ZNew Z Z2 fin ffR w.heap.size) (fun b h=>.inl h);have hks:∀ m∈olds st pk.put++pk.del,m∈n::(ds2.reverse++ds1.reverse):=fun m hm=>by
      rcases xzs.1 hm with h|h
      · obtain ⟨h1,h2⟩:=vf.1 h;rw [hput,yd] at h1;obtain ⟨p,hp,rfl⟩:=xzv.1 h1;rcases xzn.1 hp with rfl|hp
        · exact xz5 ..
        · unfold St.has St.O at h2; rw [(hnew p hp).2] at h2; cases h2
      · exact xzp _ h
     have hru:=(R.us n _ hob).2;refine ⟨⟨by rw [o3,o4],d',ty',by rw [o3]; exact q1,by rw [o3]; simp only [bx]; rw [hspl,k3]; exact hsz,fun k av y hk hy=>?_⟩,xzl.2 fun av hav=>?_⟩
     · rw [o3] at hy;simp only [bx] at hk hy;rw [hspg] at hk
       split at hk
       · rename_i hin;obtain ⟨hin1,hin2,b,hb1,hb2⟩:=hin;refine v2.2 (k - off) av y hk ?_;rw [q7 _ _ hb1 hb2];rw [show i.o+(k - off)=(pl.adr n).2+k by simp only [i]; omega];exact hy
       · rename_i hin
         rw [k4 _ (fun hcan=>by
          have h2:=hcan.2;have h3:=(xzm.1 h2).1;have h1:=hcan.1;simp only [i,xzi] at h1 h3;have h4:(pl.adr n).2+k - i.o=k - off:=by simp only [i]; omega
          rw [h4] at h2;have h5:k - off<bs.length:=by omega
          have h6:=hbsm _ _ (xzh h5);rw [h2] at h6
          exact hin ⟨by omega,by omega,_,xzh h5,by simpa using h6.symm⟩)] at hy
         have h0:=hrr k av y hk hy;have:=Ar.drop N (xzl.1 hru av (xzy hk)) h0;rw [xnm (hkeep av (xzy (by rw [hspg,if_neg hin]; exact hk))) hks] at this;exact this
     · obtain ⟨k,hk,rfl⟩:=x0h.1 hav;have hk':=xzh hk;have hk2:=hspg k;have hk':(splice row off (unmask bs seg (fresh true L (uid*64+32) (bs.map naP)).1))[k]?=_:=hk';rw [hk'] at hk2
       split at hk2
       · exact xzl.1 v3 _ (xzy hk2.symm)
       · exact AV.inU_mono (fun _ h=>qh h) (xzl.1 hru _ (xzy hk2.symm))
   · rcases xzs.1 hp with hp|hp
     · exact v1 p hp
     · exact (PR.rd _ _ _ hsup (fun b hb=>.inr (.inr hb)) hhR).1 p hp
 · have hhR:Held (apply st o.dst uid pk) (over pl ps) psR:=fun p hp=>hh p (xzp _ (xzz _ hp));exact (PR.rd _ _ _ hsup (fun b hb=>.inr (.inr hb)) hhR).2
end
end Go.AM
end
section
namespace Go.AM
open Go
theorem xec {lent:List Nat}:∀ {bs:List AV} {k:Prop},arrBack lent bs k->k/\∀ b∈bs,(∃ v,b=.prim v)\/(∃ t rows,b=.sl t rows/\(lent≠[]->allPrim rows))\/(∃ t rows,b=.fr [] t rows/\lent=[])
 | [],k,h=>⟨h,by simp⟩
 | b::r,k,h=>by
   have tl:arrBack lent r k->((∃ v,b=.prim v)\/(∃ t rows,b=.sl t rows/\(lent≠[]->allPrim rows))\/(∃ t rows,b=.fr [] t rows/\lent=[]))->k/\∀ b'∈b::r,(∃ v,b'=.prim v)\/(∃ t rows,b'=.sl t rows/\(lent≠[]->allPrim rows))\/(∃ t rows,b'=.fr [] t rows/\lent=[]):=fun h hb=>by
    obtain ⟨h1,h2⟩:=xec h;refine ⟨h1,fun b' hm=>?_⟩;rcases xzn.1 hm with rfl|hm
    · exact hb
    · exact h2 b' hm
   cases b with
   | prim v=>simp only [arrBack] at h; exact tl h (.inl ⟨v,rfl⟩)
   | sl t rows =>
     simp only [arrBack] at h
     split at h
     · exact tl h (.inr (.inl ⟨t,rows,rfl,fun h=>absurd rfl h⟩))
     · exact tl h.2 (.inr (.inl ⟨t,rows,rfl,fun _=>h.1⟩))
   | fr ns t rows =>
     cases ns with
     | nil =>
       simp only [arrBack] at h
       split at h
       · exact tl h (.inr (.inr ⟨t,rows,rfl,rfl⟩))
       · exact h.elim
     | cons m ms=>simp only [arrBack] at h
   | _=>simp only [arrBack] at h
theorem xw7 {c:AV} (h:arrC c=true):c.isNa=false:=by cases c<;>first|rfl|cases h
section
variable {P:Program} {o:Oper} {uid:Nat}
theorem xqk {c:Call} {fo:Operand} {f:Nat} (ho:o.op=.call c) (hc:c.callee=.value fo) {rt:List (Nat × TV)} {r:List TV} {n i off te:Nat} {p:Bool} {rows:List (List AV)} {row:List AV}
 (hargs:∀ (cx:Cx) (st:St) (a:Act) (w:World) (pl:Pl) (Z:Nat->Prop),Rel P cx st a w pl Z->RdT rt st->∃ capsV:Array Value,a.eval fo=.func (.func f) #[] capsV/\(c.args.map a.eval++capsV).toList.length=(TV.one (.ptr n i off)::r).length /\
   ∀ (j:Nat) (v:TV) (x:Value),(TV.one (.ptr n i off)::r)[j]?=some v->(c.args.map a.eval++capsV).toList[j]?=some x->Tr P st pl Z w v x)
 {tn:Nat} (hrow:rows[i]?=some row) (hle:off+tn<=row.length) (hsC:allB arrC (takeC tn (dropC off row))=true) {st0:St}
 {ins:List (Mode × TV)} {lent ds2:List Nat} {ro2:List (Nat × Ob)} (hg:GathOk st0 r [] ins lent ro2 ds2) (hdis:∀ m∈n::ds2.reverse,m ∉ lent) {bs:List AV} {res:TV}
 (hsem:Sem P f ((.io 0 0,.agg (takeC tn (dropC off row)))::ins) [.agg bs] res) {kp:Bool} (hkb:arrBack lent bs True) (hkp:keptV kp lent res True)
 (hin2:namesIn uid (freshV kp lent (uid*64) res).2=true) :
 Good P o uid ⟨rt,(n,.arr te rows p)::ro2,(freshV kp lent (uid*64) res).1,(n,.arr te (rows.set i (splice row off bs)) p)::(freshV kp lent (uid*64) res).2,ds2.reverse⟩:=by
 intro cx st a w pl Z R ht hro hok K Q hK;obtain ⟨capsV,e1,e2,e3⟩:=hargs cx st a w pl Z R ht;have hob:=(RdO.cons.1 hro).1;have hr2:=(RdO.cons.1 hro).2;obtain ⟨_,g2,g3,_,g5,g6⟩:=hg;have hrun:=xc3 (w:=w) ho hc e1 hsem.1;have hn:st.has n:=by unfold St.has St.O; rw [hob]; rfl
 have hne:rows≠[]:=by intro e; subst e; simp at hrow
 obtain ⟨g,cap,cur,cells,fs,hh,hgg,hcap,hmx,hsz,htake,hw,hcln,hfl,hr,hown⟩:=xff R hob hne;have hseg:(takeC tn (dropC off row)).length=tn:=by rw [yb,yc]; simp; omega
 have hsC':∀ c∈takeC tn (dropC off row),arrC c=true:=xa0.1 hsC;have hsegg:∀ k av,(takeC tn (dropC off row))[k]?=some av->row[off+k]?=some av/\k<tn:=fun k av hk=>by
  rw [yb,yc,xz7] at hk
  split at hk
  · rename_i h; rw [x0p] at hk; exact ⟨hk,h⟩
  · cases hk
 generalize hsegE:takeC tn (dropC off row)=seg at *;have hil:i<rows.length:=(xzm.1 hrow).1;have hrl:=xcf hw hrow;have hbd:i*P.cellsOf te+P.cellsOf te<=rows.length*P.cellsOf te:=by
  have:(i+1)*P.cellsOf te<=rows.length*P.cellsOf te:=x0b _ hil;rw [x1g] at this; exact this
 have hcm:rows.length*P.cellsOf te<=cur.size:=by rw [hsz]; exact x0b _ hcap
 generalize hpos:i*P.cellsOf te+off=pos at *;have hpn:pos+tn<=rows.length*P.cellsOf te:=by omega
 have hgown:g∈pl.own n:=by rw [hown]; simp
 obtain ⟨hgl,hgZ,hgm⟩:=R.lt n hn g hgown;have hnd0:(g::fs.flatten).Nodup:=hown▸R.nd n hn;have hgf:g ∉ fs.flatten:=(x0x.1 hnd0).1;have hfsn:fs.flatten.Nodup:=(x0x.1 hnd0).2;let fm:List (List Nat):=(fs.drop pos).take tn;have hfml:fm.length=tn:=by simp [fm]; omega
 have hfmg:∀ k,k<tn->fm[k]?=fs[pos+k]?:=fun k hk=>by simp only [fm]; rw [xz7,if_pos hk,x0p]
 have hparts:fs.flatten=(fs.take pos).flatten++(fm.flatten++(fs.drop (pos+tn)).flatten):=by
  conv=>lhs; rw [<- x10 pos fs,x07,<- x10 tn (fs.drop pos),x07,x3n]
 have hrest:List.Sublist ((fs.take pos).flatten++(fs.drop (pos+tn)).flatten) fs.flatten:=by
  rw [hparts]; exact x2q (x20 _) (x2t _ _)
 have hfmsub:List.Sublist fm.flatten fs.flatten:=by
  rw [hparts]; exact (List.sublist_append_left _ _).trans (x2t _ _)
 have hapart:∀ b∈(fs.take pos).flatten++(fs.drop (pos+tn)).flatten,b ∉ fm.flatten:=by
  intro b hb hb2;rw [hparts] at hfsn;obtain ⟨h1,h2,h3⟩:=x0j.1 hfsn;obtain ⟨h4,h5,h6⟩:=x0j.1 h2;rcases xzs.1 hb with h|h
  · exact h3 b h b (xzt _ hb2) rfl
  · exact h6 b hb2 b h rfl
 have hdel:n ∉ ds2:=fun h=>((xd3 hok).2 n (x1w.2 h)).2 (by simp [names]);have hdarr:∀ m∈ds2,∃ t rows p,lk st.s m=some (.arr t rows p):=fun m hm=>by
  obtain ⟨t,rows,e⟩:=g5 m hm; exact ⟨t,rows,false,hr2.mem e⟩
 have hdh:∀ m∈ds2,st.has m:=fun m hm=>by obtain ⟨t,r,p,h⟩:=hdarr m hm; unfold St.has St.O; rw [h]; rfl
 have hLh:∀ m∈lent,st.has m:=xci hr2 g2;have hLd:∀ m∈lent,m≠n/\m ∉ ds2:=fun m hm=>⟨fun e=>hdis n (xz5 ..) (e▸hm),fun h=>hdis m (xzp _ (x1w.2 h)) hm⟩;have hlu:∀ m∈lent,memN (m / 64) (uid::st.u)=true:=fun m hm=>by
  obtain ⟨o,ho⟩:=g2 m hm;exact qh (R.us m o (hr2.mem ho)).1
 let S:=Sup pl Z lent;let fin:=fm.flatten++ds2.flatMap pl.own;let io:Io:=⟨g,pos,seg.map fun c=>!c.isNa⟩;have him:∀ b∈io.m,b=true:=fun b hb=>by obtain ⟨c,hc,rfl⟩:=xzv.1 hb; rw [xw7 (hsC' c hc)]; rfl
 have hSn:∀ b∈pl.own n,¬ S b:=by
  rintro b hb (h|⟨q,hq,h⟩)
  · exact (R.lt n hn b hb).2.1 h
  · exact R.dj n q hn (hLh q hq) (fun e=>(hLd q hq).1 e.symm) b hb h
 have hfinb:∀ b∈fin,b<w.heap.size/\¬ S b/\b≠g/\∀ j,cx.io=some j->b≠j.b:=by
  intro b hb;rcases xzs.1 hb with hb|hb
  · have hbo:b∈pl.own n:=by rw [hown]; exact xzp _ (hfmsub.subset hb)
    exact ⟨(R.lt n hn b hbo).1,hSn b hbo,fun e=>hgf (e▸hfmsub.subset hb),fun j hj e=>R.ioa j hj n te rows p hob (e▸hbo)⟩
  · obtain ⟨m,hm,hb⟩:=x0i.1 hb;obtain ⟨h1,h2,h3⟩:=R.lt m (hdh m hm) b hb;refine ⟨h1,?_,fun e=>R.dj m n (hdh m hm) hn (fun e=>hdel (e▸hm)) b hb (e▸hgown),fun j hj e=>?_⟩
    · rintro (h|⟨q,hq,h⟩)
      · exact h2 h
      · exact R.dj m q (hdh m hm) (hLh q hq) (fun e=>(hLd q hq).2 (e▸hm)) b hb h
    · obtain ⟨t,r,p,hl⟩:=hdarr m hm; exact R.ioa j hj m t r p hl (e▸hb)
 have hfinn:fin.Nodup:=x0j.2 ⟨hfmsub.nodup hfsn,qq R g3 hdh,fun b hb c hc e=>by
  subst e;obtain ⟨m,hm,hc⟩:=x0i.1 hc
  exact R.dj n m hn (hdh m hm) (fun e=>hdel (e▸hm)) b (by rw [hown]; exact xzp _ (hfmsub.subset hb)) hc⟩
 have hSb:∀ b,S b->b<w.heap.size/\b≠g:=by
  rintro b hS;refine ⟨?_,fun e=>hSn g hgown (e▸hS)⟩;rcases hS with h|⟨q,hq,h⟩
  · exact (R.zlt b h).1
  · exact (R.lt q (hLh q hq) b h).1
 obtain ⟨x0,xr,hxx⟩:∃ x0 xr,(c.args.map a.eval++capsV).toList=x0::xr:=by
  cases h:(c.args.map a.eval++capsV).toList with
  | nil=>rw [h] at e2; simp at e2
  | cons x0 xr=>exact ⟨x0,xr,rfl⟩
 rw [hxx] at e2 e3;have hx0:x0=.pointer (some ⟨g,pos,none⟩):=by
  have:=e3 0 _ x0 rfl rfl _ hob;simpa [ptrAt,hh,Value.ownBlock,hpos] using this
 have hrestI:=g6 P cx st a w pl Z S R hr2 (fun b hb=>hb) (some io) xr (by simpa using e2) fun j v x hv hx=>e3 (j+1) v x (by simpa using hv) (by simpa using hx);have hcelk:∀ k,k<rows.length*P.cellsOf te->cells[k]?=cur[k]?:=fun k hk=>by rw [<- htake,xz7,if_pos hk]; simp
 have hins:InsR P w S (some io) ((.io 0 0,.agg seg)::ins) (x0::xr) fin:=by
  rw [hx0];refine .cons (.io rfl ⟨rfl,cur,te,fm,hgg,?_,by rw [hfml,hseg],rfl,fun k av gg hk hgk=>.inr ?_⟩) hrestI
  · show pos+seg.length<=cur.size;rw [hseg]; exact x1r hpn hcm
  · obtain ⟨h1,hkt⟩:=hsegg k av hk;have hflat:=xgf hw hrow h1
    rw [<- x1m,hpos] at hflat
    have hkc:pos+k<cells.length:=by omega
    rw [hfmg k hkt] at hgk;exact ⟨cells[pos+k],by rw [<- hcelk (pos+k) (by omega)]; exact xzh hkc,(hr _ av _ gg hflat (xzh hkc) hgk).mono (fun b hb=>.inl hb) (fun _ _=>rfl) fun _ _=>rfl⟩
 have hcalls:=hsem.2 w S (some io) _ fin (R.gl.mono (fun b h=>.inl h) fun _ _=>rfl) hins (.inr ⟨0,0,_,xz5 ..⟩) hfinn
  (fun b hb=>⟨(hfinb b hb).1,(hfinb b hb).2.1,fun j hj=>by cases hj; exact (hfinb b hb).2.2.1⟩) (fun b hb=>⟨(hSb b hb).1,fun j hj=>by cases hj; exact (hSb b hb).2⟩)
 unfold Oper.wp;rw [hrun,Oper.upon_enter];rw [<- hxx,x1s] at hcalls;refine hcalls.mono ?_;rintro e w' ⟨v,rfl,Z2,ff1,gz,hF,hZ,hZ2,hres,hout,hnd,hblk⟩;have hIo:IoR P w' Z2 io bs gz:=xk1 hout;obtain ⟨c',ty',xs',fs',q1,q2,q3,q4,rfl,q6,q7,q8⟩:=ioAll hIo him;have hbsl:bs.length=tn:=by rw [q3]; simp only [io,xzi]; exact hseg
 obtain ⟨hn1,hn2,hn3⟩:=x0j.1 hnd;let pk:Pk:=⟨rt,(n,.arr te rows p)::ro2,(freshV kp lent (uid*64) res).1,(n,.arr te (rows.set i (splice row off bs)) p)::(freshV kp lent (uid*64) res).2,ds2.reverse⟩;have hu0:=y7 hok;have huq:uniqN (names (freshV kp lent (uid*64) res).2)=true:=by
  have h1:names pk.put=n::names (freshV kp lent (uid*64) res).2:=by simp [pk,names]
  have h2:uniqN (n::names (freshV kp lent (uid*64) res).2)=true:=h1▸hu0;simp only [uniqN] at h2;cases hm:memN n (names (freshV kp lent (uid*64) res).2)<;>rw [hm] at h2
  · exact h2
  · cases h2
 have hnr:∀ p∈(freshV kp lent (uid*64) res).2,p.1 / 64=uid:=kd hin2;obtain ⟨psR,ffR,hmr,PR⟩:=xhd (us:=uid::st.u) hres hn1 hkp hlu (fun p hp=>vv (hnr p hp)) huq;let fs2:List (List Nat):=fs.take pos++fs'++fs.drop (pos+tn);have hf'l:fs'.length=tn:=by rw [q4,hbsl]
 have hfget:∀ k:Nat,fs2[k]?=if pos<=k/\k<pos+tn then fs'[k - pos]? else fs[k]?:=by
  intro k;have:=xch (l:=fs) (d:=fs') (p:=pos) (k:=k) (by rw [hf'l,hfl,hcln]; exact hpn);rw [hf'l] at this;exact this
 have hfs2E:fs2.flatten=(fs.take pos).flatten++(fs'.flatten++(fs.drop (pos+tn)).flatten):=by simp [fs2,x0c]
 let ax:Plc:=⟨n,.arr te (rows.set i (splice row off bs)) p,pl.hdr n,pl.adr n,g::fs2.flatten⟩;let ps:List Plc:=ax::psR;have hput:pk.put=ps.map fun p=>(p.n,p.o):=by
  show _=(ax::psR).map _;rw [x0d,<- hmr]
 have hufr:memN uid st.u=false:=kk hok (List.cons_ne_nil _ _);have hnew:∀ p∈psR,p.n / 64=uid/\lk st.s p.n=none:=fun p hp=>by
  have:p.n / 64=uid:=hnr (p.n,p.o) (by rw [hmr]; exact xzv.2 ⟨p,hp,rfl⟩);exact ⟨this,kl R hufr this⟩
 have hWn:∀ b∈pl.own n,Wr st pl pk b:=fun b hb=>⟨n,.inl (by simp [pk,names]),hn,hb⟩;have hW:∀ b,(b∈fin\/∃ j,some io=some j/\b=j.b)->Wr st pl pk b:=by
  rintro b (hb|⟨j,hj,hb⟩)
  · rcases xzs.1 hb with hb|hb
    · exact hWn b (by rw [hown]; exact xzp _ (hfmsub.subset hb))
    · obtain ⟨m,hm,hb⟩:=x0i.1 hb;exact ⟨m,.inr (x1w.2 hm),hdh m hm,hb⟩
  · cases hj;exact hWn b (by rw [hb]; exact hgown)
 have hfall:∀ b∈ff1++fs'.flatten,(b∈fin\/w.heap.size<=b)/\b<w'.heap.size/\¬ Z2 b:=fun b hb=>by obtain ⟨h1,h2,h3,_⟩:=hblk b hb; exact ⟨h1,h2,h3⟩
 have hfng:∀ b∈ff1++fs'.flatten,b≠g:=fun b hb e=>(hblk b hb).2.2.2 io rfl e;have hfnj:∀ b∈ff1++fs'.flatten,∀ j,cx.io=some j->b≠j.b:=fun b hb j hj e=>by
  rcases (hfall b hb).1 with h|h
  · exact (hfinb b h).2.2.2 j hj e
  · have:=xfg R hj; omega
 have hsubR:∀ p∈psR,∀ b∈p.f,b∈ff1:=fun p hp b hb=>((PR.nd p hp).2 b hb).1;let keptB:=(fs.take pos).flatten++(fs.drop (pos+tn)).flatten;have hkept:∀ b∈keptB,b∈pl.own n/\b ∉ fin/\b≠g/\b<w.heap.size:=by
  intro b hb;have hbo:b∈pl.own n:=by rw [hown]; exact xzp _ (hrest.subset hb)
  refine ⟨hbo,fun h=>?_,fun e=>hgf (e▸hrest.subset hb),(R.lt n hn b hbo).1⟩;rcases xzs.1 h with h|h
  · exact hapart b hb h
  · obtain ⟨m,hm,h⟩:=x0i.1 h;exact R.dj n m hn (hdh m hm) (fun e=>hdel (e▸hm)) b hbo h
 have hkeptF:∀ b∈keptB,b ∉ ff1++fs'.flatten:=fun b hb h=>by
  rcases (hfall b h).1 with h|h
  · exact (hkept b hb).2.1 h
  · have:=(hkept b hb).2.2.2; omega
 have hin2':∀ b∈fs2.flatten,b∈fs'.flatten\/b∈keptB:=fun b hb=>by
  rw [hfs2E] at hb;rcases xzs.1 hb with h|h
  · exact .inr (xzt _ h)
  · rcases xzs.1 h with h|h
    · exact .inl h
    · exact .inr (xzz _ h)
 have hZ2n:∀ b∈pl.own n,b ∉ fin->¬ Z2 b:=fun b hb hf h=>by
  rcases (hZ2 b h).1 with h|h|h
  · exact hSn b hb h
  · exact hf h
  · have:=(R.lt n hn b hb).1; omega
 have hgfin:g ∉ fin:=fun h=>(hfinb g h).2.2.1 rfl;obtain ⟨d,d',ty0,k1,k2,k3,k4⟩:=hF.iob io rfl;have hcd:d=cur/\ty0=te:=by
  have:some (Obj.cells d ty0 (0,0))=some (Obj.cells cur te (0,0)):=k1.symm.trans hgg;simp only [x0g,Obj.cells.injEq,x29] at this; exact this
 obtain ⟨rfl,rfl⟩:=hcd;have hdc:d'=c':=by
  have:some (Obj.cells d' ty0 (0,0))=some (Obj.cells c' ty' (0,0)):=k2.symm.trans q1;simp only [x0g,Obj.cells.injEq,x29] at this; exact this.1
 subst hdc;have hold:∀ p∈ps,∀ o,lk st.s p.n=some o->o.like p.o/\p.h=pl.hdr p.n/\p.ad=pl.adr p.n:=fun q hq o hl=>by
  rcases xzn.1 hq with rfl|hq
  · have:o=.arr ty0 rows p:=x0f (hl.symm.trans hob);subst this; exact ⟨rfl,rfl,rfl⟩
  · rw [(hnew q hq).2] at hl; cases hl
 have hOw:∀ Zn:Nat->Prop,(∀ b,Z b->Zn b)->(lent=[]->∀ b,Z2 b->Zn b)->Ow P w' Zn (.sl ty0 (rows.set i (splice row off bs))) (pl.hdr n) (g::fs2.flatten):=by
  intro Zn hzn hzl;have h1:w'.ownsRow 0 ty0 (P.cellsOf ty0) (pl.hdr n) (rows.set i (splice row off bs)).length (d'.toList.take (rows.length*P.cellsOf ty0)):=by
   rw [x03,hh];exact ⟨by simp; omega,.inr ⟨g,cap,d',rfl,xz1 _,k2,hcap,hmx,by rw [k3,hsz],rfl⟩⟩
  have:=Ow.sl (P:=P) (Z:=Zn) (fs:=fs2) (by rw [x03]; exact Ow.max (R.obj n _ hob)) (fun r hr=>by
   rcases x1l hr with h|h
   · exact hw r h
   · rw [h,km (by omega)]; exact hrl) h1 (by simp [fs2,hf'l,hfl,hcln]; omega) fun k av y gk hk hy hgk=>by
   rw [xhb hw hrow (by omega),hpos,hbsl] at hk;rw [hfget] at hgk;rw [xz7] at hy
   split at hy
   · rename_i hkl;rw [x0w] at hy
     split at hk
     · rename_i hin;rw [if_pos hin] at hgk;have hO:=q8 (k - pos) av y gk hk (by rw [q7 _ (by omega)]; simp only [io]; rw [show pos+(k - pos)=k by omega]; exact hy) hgk;rcases (xec hkb).2 av (xzy hk) with ⟨u,rfl⟩|⟨t,rs,rfl,hp⟩|⟨t,rs,rfl,hl⟩
       · cases hO with
         | prim h=>exact .prim h
       · by_cases hl:lent=[]
         · exact hO.mono (hzl hl) (fun _ _=>rfl) (fun _ _=>rfl)
         · exact hO.primRows (hp hl)
       · exact hO.mono (hzl hl) (fun _ _=>rfl) (fun _ _=>rfl)
     · rename_i hin;rw [if_neg hin] at hgk;have hy':cells[k]?=some y:=by
        rw [hcelk k hkl,<- hy]
        exact (k4 k fun hcan=>hin ⟨by have:=hcan.1; simp only [io] at this; exact this,by
         have h2:=hcan.2;have:=(xzm.1 h2).1;simp only [io,xzi] at this;have:=hcan.1;simp only [io] at this
         omega⟩).symm
       refine (hr _ av y gk hk hy' hgk).mono hzn (fun b hb=>?_) fun b hb=>?_
       · exact hF.blk b (R.zlt b hb).1 (fun h=>(hfinb b h).2.1 (.inl hb)) fun j hj e=>by cases hj; exact hgZ (by rw [<- show b=g from e]; exact hb)
       · have hbk:b∈keptB:=by
          by_cases hlt:k<pos
          · exact xzt _ (x08.2 ⟨gk,x1f.2 ⟨k,by rw [xz7,if_pos hlt]; exact hgk⟩,hb⟩)
          · have:pos+tn<=k:=by
             apply x2s; intro h; exact hin ⟨by omega,by omega⟩
            exact xzz _ (x08.2 ⟨gk,x1f.2 ⟨k - (pos+tn),by rw [x0p,show pos+tn+(k - (pos+tn))=k by omega]; exact hgk⟩,hb⟩)
         obtain ⟨_,z2,z3,z4⟩:=hkept b hbk;exact hF.blk b z4 z2 fun j hj e=>by cases hj; exact z3 e
   · cases hy
  have hob':(pl.hdr n).ownBlock=some g:=by rw [hh]; rfl
  rw [hob'] at this;exact this
 have hndA:(g::fs2.flatten).Nodup:=by
  refine x0x.2 ⟨fun h=>(hin2' g h).elim (fun h=>hfng g (xzz _ h) rfl) fun h=>(hkept g h).2.2.1 rfl,?_⟩;rw [hfs2E,(List.perm_append_comm_assoc _ _ _).nodup_iff];refine x0j.2 ⟨hn2,hrest.nodup hfsn,fun b hb c hc e=>?_⟩;subst e;exact hkeptF b hc (xzz _ hb)
 refine hK _ _ _ _ (xfs R (pk:=pk) (ps:=ps) (lent:=lent) (fin:=fin) (cio:=some io) (ff:=ffR) (f:=ff1++fs'.flatten) hok hput (fun m hm=>⟨hLh m hm,fun q hq e=>?_⟩) hold hW (fun b hb=>(hfinb b hb).2.2.2) (fun j hj i' hi' hb k hk=>?_) hF hZ (fun b hb=>⟨(hZ2 b hb).1,(hZ2 b hb).2.1⟩) hfall (fun b hb=>xzt _ (PR.sub b hb)) (fun q hq=>?_) (fun q hq q' hq' hne' b hb=>?_) (fun j hj q hq row' hr' had=>?_) (fun j hj q hq _ hbi=>?_) (fun hsup hhd q hq=>?_) (fun hsup hhd=>?_))
 · rcases xzn.1 hq with rfl|hq
   · exact (hLd m hm).1 e.symm
   · have h1:=(hnew q hq).2;have h2:=hLh m hm;unfold St.has St.O at h2;rw [<- e,h1] at h2; cases h2
 · cases hi';exact absurd (by rw [hb]; exact hgown) (R.ioa j hj n ty0 rows p hob)
 · rcases xzn.1 hq with rfl|hq
   · refine ⟨hndA,fun b hb=>?_⟩;rcases xzn.1 hb with rfl|hb
     · exact ⟨fun h=>hfng _ (xzt _ (PR.sub _ h)) rfl,.inr ⟨hWn _ hgown,x1c hgl hF.size,hZ2n _ hgown hgfin,hgZ⟩⟩
     · rcases hin2' b hb with hb|hb
       · exact ⟨fun h=>hn3 b (PR.sub b h) b hb rfl,.inl (xzz _ hb)⟩
       · obtain ⟨z1,z2,z3,z4⟩:=hkept b hb;exact ⟨fun h=>hkeptF b hb (xzt _ (PR.sub b h)),.inr ⟨hWn b z1,x1c z4 hF.size,hZ2n b z1 z2,(R.lt n hn b z1).2.1⟩⟩
   · exact ⟨(PR.nd q hq).1,fun b hb=>⟨((PR.nd q hq).2 b hb).2,.inl (xzt _ (hsubR q hq b hb))⟩⟩
 · have hnb:∀ q∈psR,∀ b∈q.f,b ∉ g::fs2.flatten:=fun q hq b hb h=>by
    have h1:=hsubR q hq b hb;rcases xzn.1 h with rfl|h
    · exact hfng _ (xzt _ h1) rfl
    · rcases hin2' b h with h|h
      · exact hn3 b h1 b h rfl
      · exact hkeptF b h (xzt _ h1)
   rcases xzn.1 hq with rfl|hq<;>rcases xzn.1 hq' with rfl|hq'
   · exact absurd rfl hne'
   · exact fun h=>hnb q' hq' b h hb
   · exact hnb q hq b hb
   · exact PR.dj q hq q' hq' hne' b hb
 · rcases xzn.1 hq with rfl|hq
   · cases hr'
   · exact absurd had (hfnj _ (xzt _ (hsubR q hq _ (PR.box q hq row' hr'))) j hj)
 · rcases xzn.1 hq with rfl|hq
   · rcases xzn.1 hbi with h|h
     · exact R.ioa j hj n ty0 rows p hob (by rw [h]; exact hgown)
     · rcases hin2' _ h with h|h
       · exact hfnj _ (xzz _ h) j hj rfl
       · exact R.ioa j hj n ty0 rows p hob (hkept _ h).1
   · exact hfnj _ (xzt _ (hsubR q hq _ hbi)) j hj rfl
 · rcases xzn.1 hq with rfl|hq
   · obtain ⟨o1,o2,o3,o4⟩:=hhd ax (xz5 ..);refine ⟨?_,rfl⟩;show Ow P w' _ (.sl ty0 (rows.set i (splice row off bs))) _ _;rw [o2,o4];exact hOw _ (fun b h=>.inl h) fun hl b hb=>by
      rcases hsup b hb with h|⟨m,hm,_⟩
      · exact h
      · rw [hl] at hm; cases hm
   · exact (PR.rd _ _ _ hsup (fun b hb=>.inr (.inr hb)) (fun q hq=>hhd q (xzp _ hq))).1 q hq
 · exact (PR.rd _ _ _ hsup (fun b hb=>.inr (.inr hb)) (fun q hq=>hhd q (xzp _ hq))).2
end
end Go.AM
end
section
namespace Go.AM
open Go
theorem xft:∀ {vs:List TV} {k:List AV->Prop},capsC vs k->∃ cs,k cs/\cs.length=vs.length/\∀ (j:Nat) (c:AV),cs[j]?=some c->vs[j]?=some (.one c)/\∃ n i off,c=.ptr n i off
 | [],k,h=>⟨[],h,rfl,fun j c h=>by simp at h⟩
 | v::r,k,h=>by
   unfold capsC at h
   split at h
   · rename_i h1; cases h1
   · rename_i n i off r' h1;simp only [x3e] at h1;obtain ⟨rfl,rfl⟩:=h1;obtain ⟨cs,h,h1,h2⟩:=xft h;refine ⟨_,h,by simp [h1],fun j c hj=>?_⟩
     cases j with
     | zero=>simp at hj; subst hj; exact ⟨rfl,n,i,off,rfl⟩
     | succ j=>simpa using h2 j c (by simpa using hj)
   · exact h.elim
theorem xvl {P:Program} {st:St} {pl:Pl} {Z:Nat->Prop} {w:World} {v:AV} {x:Value} (h:A0 P st pl Z w v x):Ar P st pl Z w v x:=by
 cases v<;>first|exact h|exact h.elim
section
variable {E:Env} (hE:tabB E=true) {uid:Nat} {st:St} {o:Oper} {k:Pk->Prop}
theorem xql {x:Operand} {i:Nat} (ho:o.op=.extract x i) (h:opP E uid st o k):OpOk E uid st o k:=by
 simp only [opP,ho] at h;replace h:=xk h;obtain ⟨rt,v,h,hr,he⟩:=h
 split at h
 · split at h
   · rename_i a cs hi
     split at h
     · rename_i hl;exact ⟨_,h,xko ho he hi fun ha=>zu.1 (by simpa [ha] using hl),hr,RdO.nil⟩
     · exact h.elim
   · exact h.elim
 · exact h.elim
theorem xnn {fn:Fn} {first caps:Array Operand} (ho:o.op=.makeFunc fn first caps) (h:opP E uid st o k):OpOk E uid st o k:=by
 simp only [opP,ho] at h
 split at h
 · replace h:=ky h;obtain ⟨rt,vs,h,hr,hl,hev⟩:=h;replace h:=xft h;obtain ⟨cs,h,h1,h2⟩:=h;refine ⟨_,h,xj6 ho (by rw [h1,hl]; simp) fun j x c hx hc=>?_,hr,RdO.nil⟩;obtain ⟨h3,h4⟩:=h2 j c hc;exact ⟨h4,hev j 0 x (.one c) (by simp [hx]) h3⟩
 · exact h.elim
theorem xhh {c:Call} {rt:List (Nat × TV)} {vs:List TV} (hl:vs.length=(c.argTypes.toList.zip c.args.toList).length) (hlen:vs.length=c.args.size)
 (hev:∀ (j:Nat) (ty:Nat) (x:Operand) (v:TV),(c.argTypes.toList.zip c.args.toList)[j]?=some (ty,x)->vs[j]?=some v->∃ rt',Ev E.P x rt' v/\∀ p∈rt',p∈rt)
 {cx:Cx} {st:St} {a:Act} {w:World} {pl:Pl} {Z:Nat->Prop} (R:Rel E.P cx st a w pl Z) (ht:RdT rt st):∀ (j:Nat) (v:TV) (x:Value),vs[j]?=some v->(c.args.map a.eval).toList[j]?=some x->Tr E.P st pl Z w v x:=by
 intro j v x hv hx;simp only [x28,xzr,xz0] at hx;obtain ⟨y,hy,rfl⟩:=hx;have hj:j<(c.argTypes.toList.zip c.args.toList).length:=by rw [<- hl]; exact (xzm.1 hv).1
 have hz:=xzh hj;have h2:((c.argTypes.toList.zip c.args.toList)[j]).2=y:=by
  have:c.args.toList[j]?=some ((c.argTypes.toList.zip c.args.toList)[j]).2:=by
   simp only [List.getElem_zip];exact xzh (by simp at hj; simp; omega)
  rw [this] at hy;exact x0f hy
 obtain ⟨rt',he,hsub⟩:=hev j _ _ v (by rw [hz]) hv;rw [h2] at he;exact (he cx st a w pl Z R fun p hp=>ht p (hsub p hp)).1
theorem xed {kp:Bool} {lent:List Nat}:∀ {cs:List AV} {k:Prop},keptOk kp lent cs k->keptOk kp lent cs True/\k:=by
 intro cs
 induction cs with
 | nil=>intro k h; exact ⟨trivial,h⟩
 | cons a r ih =>
   intro k h;cases a<;>simp only [keptOk] at h ⊢
   case sl t rows =>
    split at h
    · exact ⟨⟨h.1,(ih h.2).1⟩,(ih h.2).2⟩
    · exact ih h
   all_goals exact ih h
theorem xb6 {kp:Bool} {lent:List Nat} {v:TV} {k:Prop} (h:keptV kp lent v k):keptV kp lent v True/\k:=by
 unfold keptV at h ⊢
 split at h<;>exact xed h
theorem xj8 {lent:List Nat}:∀ {cs:List AV} {k:Prop},arrBack lent cs k->arrBack lent cs True/\k:=by
 intro cs
 induction cs with
 | nil=>intro k h; exact ⟨trivial,h⟩
 | cons a r ih =>
   intro k h
   cases a with
   | prim v=>simp only [arrBack] at h ⊢; exact ih h
   | sl t rows =>
     cases lent with
     | nil=>simp only [arrBack] at h ⊢; exact ih h
     | cons m ms=>simp only [arrBack] at h ⊢; exact ⟨⟨h.1,(ih h.2).1⟩,(ih h.2).2⟩
   | fr ns t rows =>
     cases ns with
     | nil =>
       cases lent with
       | nil=>simp only [arrBack] at h ⊢; exact ih h
       | cons m ms=>simp only [arrBack] at h
     | cons m ms=>simp only [arrBack] at h
   | _=>simp only [arrBack] at h
theorem xvm {t:Nat} {k:TI->Prop} (h:tyI E t k):∃ ti,k ti:=by
 unfold tyI at h
 split at h
 · exact ⟨_,h⟩
 · exact h.elim
theorem xs1 {t:Nat} {k:TI->Prop} (h:ptyI E t k):∃ ti,k ti:=by
 unfold ptyI at h
 split at h
 · split at h
   · exact xvm h
   · exact ⟨_,h⟩
 · exact h.elim
theorem xj9 {f ty lo hi:Nat} {rt:List (Nat × TV)} {ms:List Mode} {v0:TV} {r:List TV} (h:callIoP E st uid f ty lo hi rt ms v0 r k) {c:Call} {fo:Operand} (ho:o.op=.call c) (hc:c.callee=.value fo) (hr:RdT rt st)
 (hargs:∀ (cx:Cx) (st:St) (a:Act) (w:World) (pl:Pl) (Z:Nat->Prop),Rel E.P cx st a w pl Z->RdT rt st->∃ capsV:Array Value,a.eval fo=.func (.func f) #[] capsV/\(c.args.map a.eval++capsV).toList.length=(v0::r).length /\
   ∀ (j:Nat) (v:TV) (x:Value),(v0::r)[j]?=some v->(c.args.map a.eval++capsV).toList[j]?=some x->Tr E.P st pl Z w v x):OpOk E uid st o k:=by
 unfold callIoP at h
 split at h
 · rename_i n i off;replace h:=xs1 h;obtain ⟨ti,h⟩:=h;simp only at h
   split at h
   · rename_i row hob
     split at h
     · rename_i hle;replace h:=ja h;obtain ⟨cs,ns,ro1,ds1,h,a1,a2,a3,a4,a5,a6,a7,a8⟩:=h;replace h:=j2 h;obtain ⟨ins,lent,ro2,ds2,h,hg⟩:=h;rw [x0l] at h hg
       split at h
       · rename_i hh;obtain ⟨bs,res,hsem,h⟩:=h;obtain ⟨hk1,h⟩:=xed h;obtain ⟨hk2,h⟩:=xb6 h;simp only [xq] at h
         split at h
         · rename_i b1 b2 b3;rw [zp,x5] at h;exact ⟨_,h,xqj ho hc hargs (y6.1 hle) (xqi lo hi _) a1 a2 a3 a4 a6 a7 a8 hg (fun m hm hml=>xz.1 hh m hm hml) hsem hk1 hk2 (xa0.1 b1) b2 b3,hr,RdO.cons.2 ⟨hob,RdO.append.2 ⟨a1,hg.1⟩⟩⟩
         · exact h.elim
       · exact h.elim
     · exact h.elim
   · rename_i t rows p hob;obtain ⟨row,hrow,h⟩:=h
     split at h
     · rename_i hle hC;replace h:=j2 h;obtain ⟨ins,lent,ro2,ds2,h,hg⟩:=h;rw [x0l] at h
       split at h
       · rename_i hh;obtain ⟨bs,res,hsem,h⟩:=h;obtain ⟨hk1,h⟩:=xj8 h;obtain ⟨hk2,h⟩:=xb6 h
         split at h
         · rename_i b3;rw [xq,zp,x5] at h;exact ⟨_,h,xqk ho hc hargs hrow (y6.1 hle) hC hg (fun m hm hml=>xz.1 hh m hm hml) hsem hk1 hk2 b3,hr,RdO.cons.2 ⟨hob,hg.1⟩⟩
         · exact h.elim
       · exact h.elim
     · exact h.elim
   · exact h.elim
 · exact h.elim
theorem xfu {f ty:Nat} {rt:List (Nat × TV)} {args:List TV} (h:callP E st uid f ty rt args k) {c:Call} {fo:Operand} (ho:o.op=.call c) (hc:c.callee=.value fo) (hr:RdT rt st)
 (hargs:∀ (cx:Cx) (st:St) (a:Act) (w:World) (pl:Pl) (Z:Nat->Prop),Rel E.P cx st a w pl Z->RdT rt st->∃ capsV:Array Value,a.eval fo=.func (.func f) #[] capsV/\(c.args.map a.eval++capsV).toList.length=args.length /\
   ∀ (j:Nat) (v:TV) (x:Value),args[j]?=some v->(c.args.map a.eval++capsV).toList[j]?=some x->Tr E.P st pl Z w v x):OpOk E uid st o k:=by
 unfold callP at h
 split at h
 · exact xj9 h ho hc hr hargs
 · replace h:=j2 h;obtain ⟨ins,lent,ro,ds,h,hg⟩:=h;rw [x0l] at h
   split at h
   · rename_i hh;obtain ⟨res,hsem,h⟩:=h;obtain ⟨hk1,hk2⟩:=xb6 h;simp only at hk2
     split at hk2
     · rename_i hin;rw [zp,x5] at hk2;refine ⟨_,hk2,xsv ho hc hargs hg (fun m hm hml=>xz.1 hh m (by simpa using hm) hml) hsem hk1 hin,hr,hg.1⟩
     · exact hk2.elim
   · exact h.elim
include hE
theorem xw8 {c:Call} (ho:o.op=.call c) (h:opP E uid st o k):OpOk E uid st o k:=by
 simp only [opP,ho] at h
 split at h
 ·
   rename_i hc
   split at h
   · rename_i x t ha hty;replace h:=xk h;obtain ⟨rt,v,h,hr,he⟩:=h
     split at h
     · replace h:=zf hE h;obtain ⟨ti,hT,_,h⟩:=h
       split at h
       · rename_i hd hz;exact ⟨_,h,xsr ho hc ha hty (tiS hT hd hz) he,hr,RdO.nil⟩
       · exact h.elim
     · rename_i ns t' rows;replace h:=qc hE h;obtain ⟨e,hu,h⟩:=h;replace h:=yi h;obtain ⟨ro,h,hro,hal⟩:=h;refine ⟨_,h,xd8 ho hc ha hty hu he fun cx st a w pl Z R hro y hy=>?_,hr,hro⟩;have h3:Rd E.P w (Sup pl Z ns) (.sl t' rows) y:=hy (hal st hro);obtain ⟨ad,cap,e1,_⟩:=xbn h3;exact ⟨ad,cap,e1⟩
     · replace h:=qc hE h;obtain ⟨e,hu,h⟩:=h;exact ⟨_,h,xd8 (n:=0) ho hc ha hty hu he fun cx st a w pl Z R hro y hy=>⟨none,0,hy⟩,hr,RdO.nil⟩
     · replace h:=qc hE h;obtain ⟨e,hu,h⟩:=h
       split at h
       · rename_i te rows p hob;refine ⟨_,h,xd8 ho hc ha hty hu he fun cx st a w pl Z R hro y hy=>?_,hr,RdO.cons.2 ⟨hob,RdO.nil⟩⟩;have hob':=(RdO.cons.1 hro).1;rw [hy te rows p hob'];obtain ⟨cells,fs,g1,_⟩:=xcg R hob';obtain ⟨ad,cap,e1,_⟩:=xaf g1;exact ⟨ad,cap,e1⟩
       · exact h.elim
     · exact h.elim
   · exact h.elim
 ·
   rename_i hc
   split at h
   · rename_i x y t t' ha hty;replace h:=xk h;obtain ⟨rt,v,h,hr,he⟩:=h;replace h:=xk h;obtain ⟨rt',w,h,hr',he'⟩:=h;replace h:=qc hE h;obtain ⟨e,hu,h⟩:=h;replace h:=zf hE h;obtain ⟨ti,hT,_,h⟩:=h
     split at h
     · rename_i htt;have htt':=xz2 htt;subst htt'
       split at h
       · rename_i te rows hob
         split at h
         · exact h.elim
         · rename_i hte;have hte':=xz2 hte;subst hte'
           split at h
           · split at h
             · rename_i te' rows' hmn hob'
               split at h
               · rename_i hte2;have hte2':=xz2 hte2;subst hte2';obtain ⟨hb,h⟩:=h
                 split at h
                 · obtain ⟨hp,h⟩:=h;refine ⟨_,h,xks ho hc ha hty hu hT he he' (fun e=>?_) hb hp,RdT.append.2 ⟨hr,hr'⟩,RdO.cons.2 ⟨hob,RdO.cons.2 ⟨hob',RdO.nil⟩⟩⟩;rw [e,x2i] at hmn; cases hmn
                 · refine ⟨_,h,xkq ho hc ha hty hu hT he he' (fun e=>?_) hb,RdT.append.2 ⟨hr,hr'⟩,RdO.cons.2 ⟨hob,RdO.cons.2 ⟨hob',RdO.nil⟩⟩⟩;rw [e,x2i] at hmn; cases hmn
               · exact h.elim
             · exact h.elim
           · replace h:=yi h;obtain ⟨ro,h,hro,hal⟩:=h
             split at h
             · rename_i hte2 hmn;have hte2':=xz2 hte2;subst hte2';obtain ⟨hb,h⟩:=h;rcases h with ⟨hp,h⟩|⟨rfl,hp,h⟩
               · exact ⟨_,h,xkr ho hc ha hty hu hT he he' hal hb hp,RdT.append.2 ⟨hr,hr'⟩,RdO.cons.2 ⟨hob,hro⟩⟩
               · exact ⟨_,h,xkt ho hc ha hty hu hT he he' hb hp,RdT.append.2 ⟨hr,hr'⟩,RdO.cons.2 ⟨hob,hro⟩⟩
             · exact h.elim
           · exact h.elim
       · exact h.elim
     · exact h.elim
   · exact h.elim
 ·
   rename_i f hc;replace h:=ky h;obtain ⟨rt,vs,h,hr,hl,hev⟩:=h
   split at h
   · rename_i hlen;have hlen':vs.length=c.args.size:=by simpa using zu.1 hlen
     exact xfu h ho hc hr fun cx st' a w pl Z R ht=>⟨#[],rfl,by simp [hlen'],fun j v x hv hx=>xhh hl hlen' hev R ht j v x hv (by simpa using hx)⟩
   · exact h.elim
 ·
   rename_i i hc
   split at h
   · rename_i f caps hfn;replace h:=ky h;obtain ⟨rt,vs,h,hr,hl,hev⟩:=h
     split at h
     · rename_i hlen;have hlen':vs.length=c.args.size:=by simpa using zu.1 hlen
       refine xfu h ho hc (RdT.cons.2 ⟨hfn,hr⟩) fun cx st' a w pl Z R ht=>?_;obtain ⟨hf,ht⟩:=RdT.cons.1 ht;obtain ⟨y,h1,h2⟩:=R.tmp i _ hf;obtain ⟨arr,rfl,e1,e2⟩:=h2;refine ⟨arr.toArray,by simp [Act.eval,x0s,h1],by simp [hlen',e1],fun j v x hv hx=>?_⟩;have hal:(c.args.map a.eval).toList.length=vs.length:=by simp [hlen']
       rw [Array.toList_append] at hx;by_cases hj:j<vs.length
       · rw [x0a hj] at hv;rw [x0a (by omega)] at hx;exact xhh hl hlen' hev R ht j v x hv hx
       · rw [xz8 (by omega)] at hv hx;rw [hal] at hx;rw [xzr,xz0] at hv;obtain ⟨av,hv,rfl⟩:=hv;exact xvl (e2 _ av x hv (by simpa using hx))
     · exact h.elim
   · exact h.elim
 · exact h.elim
theorem xs3 (h:opP E uid st o k):OpOk E uid st o k:=by
 cases ho:o.op with
 | move x=>exact xw4 ho h
 | assign x=>exact xsw ho h
 | pick c a b=>exact xw5 ho h
 | alloc e=>exact xve hE ho h
 | box e x=>exact xx9 hE ho h
 | build t parts=>exact xvf hE ho h
 | buildSlice t n parts=>exact xj7 hE ho h
 | load t x=>exact xw6 hE ho h
 | store t x v=>exact xvg hE ho h
 | nilCheck x=>exact xnl ho h
 | binOp op t x y ty=>exact xya hE ho h
 | unOp op t x=>exact xy3 ho h
 | convert s d x=>exact xqh hE ho h
 | makeFunc fn first caps=>exact xnn ho h
 | makeSlice t l c=>exact xky hE ho h
 | slice t x lo hi mx=>exact xvh hE ho h
 | fieldAddr s x f=>exact xkz hE ho h
 | field s x f=>exact xvi hE ho h
 | indexAddr t x ix=>exact xk0 hE ho h
 | index t x ix=>exact xvj hE ho h
 | extract x i=>exact xql ho h
 | call c=>exact xw8 hE ho h
 | _=>simp only [opP,ho] at h
end
end Go.AM
end
section
namespace Go.AM
open Go
structure SEq (st st':St):Prop where
 t:∀ i,lk st'.t i=lk st.t i
 s:∀ n,lk st'.s n=lk st.s n
 u:∀ n,memN n st'.u=memN n st.u
theorem SEq.refl (st:St):SEq st st:=⟨fun _=>rfl,fun _=>rfl,fun _=>rfl⟩
theorem SEq.trans {a b c:St} (h:SEq a b) (g:SEq b c):SEq a c:=⟨fun i=>(g.t i).trans (h.t i),fun i=>(g.s i).trans (h.s i),fun i=>(g.u i).trans (h.u i)⟩
theorem SEq.symm {a b:St} (h:SEq a b):SEq b a:=⟨fun i=>(h.t i).symm,fun i=>(h.s i).symm,fun i=>(h.u i).symm⟩
theorem ObR.congr {P:Program} {st st':St} {pl:Pl} {Z:Nat->Prop} {w:World} (hs:∀ n,lk st'.s n=lk st.s n) {n:Nat} {o:Ob} (h:ObR P st pl Z w n o):ObR P st' pl Z w n o:=by
 cases o with
 | box row=>obtain ⟨h1,c,ty,h2,h3,h4⟩:=h; exact ⟨h1,c,ty,h2,h3,fun k av y hk hy=>Ar.congr hs (h4 k av y hk hy)⟩
 | arr t rows p=>exact h
theorem Rel.congr {P:Program} {cx:Cx} {st st':St} {a:Act} {w:World} {pl:Pl} {Z:Nat->Prop} (R:Rel P cx st a w pl Z) (h:SEq st st'):Rel P cx st' a w pl Z:=by
 have hh:∀ n,st'.has n↔st.has n:=fun n=>by unfold St.has St.O; rw [h.s]
 have hu:∀ n,memN n st.u=true->memN n st'.u=true:=fun n hn=>by rw [h.u]; exact hn
 refine ⟨R.tsz,R.df,fun i v hv=>?_,fun n o ho=>?_,fun n hn=>R.nd n ((hh n).1 hn),fun n m hn hm=>R.dj n m ((hh n).1 hn) ((hh m).1 hm),fun n hn=>R.lt n ((hh n).1 hn),R.zlt,R.z0,R.fr,fun i hi n row hr=>R.io i hi n row (by rw [<- h.s]; exact hr),
  fun i hi n t rows p hr=>R.ioa i hi n t rows p (by rw [<- h.s]; exact hr),fun i v hv=>TV.inU_mono hu (R.ut i v (by rw [<- h.t]; exact hv)),fun n o ho=>?_,fun i hi=>⟨hu _ (R.u0 i hi).1,fun hn=>(R.u0 i hi).2 ((hh 63).1 hn)⟩,R.gl⟩
 · obtain ⟨x,h1,h2⟩:=R.tmp i v (by rw [<- h.t]; exact hv);exact ⟨x,h1,Tr.congr h.s h2⟩
 · exact ObR.congr h.s (R.obj n o (by rw [<- h.s]; exact ho))
 · obtain ⟨h1,h2⟩:=R.us n o (by rw [<- h.s]; exact ho);exact ⟨hu _ h1,Ob.inU_mono hu h2⟩
theorem xs4 {st:St} {dst:Option Nat} {uid:Nat} {pk:Pk} {k:St->Prop} (h:applyK st dst uid pk k):∃ st',k st'/\SEq (apply st dst uid pk) st':=by
 unfold applyK at h
 split at h
 · rename_i hp hd;have e:olds st pk.put++pk.del=[]:=by rw [hp,hd]; rfl
   split at h
   · rename_i t s u d;rw [zp] at h;refine ⟨_,h,fun i=>?_,fun n=>?_,fun n=>rfl⟩
     · rw [xcc,e,x4];simp only [x0g]
       split
       · rfl
       · cases lk t i<;>simp [TV.drop_nil]
     · rw [vd,e,hp,hd];simp only [lk,x0o,x17];cases lk s n<;>simp [Ob.drop_nil]
   · rename_i t s u;refine ⟨_,h,fun i=>?_,fun n=>?_,fun n=>rfl⟩
     · rw [xcc,e];simp only [reduceCtorEq,x17];cases lk t i<;>simp [TV.drop_nil]
     · rw [vd,e,hp,hd];simp only [lk,x0o,x17];cases lk s n<;>simp [Ob.drop_nil]
 · rename_i put del hp;obtain ⟨t,s,u⟩:=st;simp only [we,xd2,x5,ka,xid,xb1,xie] at h
   cases dst with
   | some d=>simp only [zp] at h; exact ⟨_,h,fun i=>rfl,fun n=>rfl,fun n=>rfl⟩
   | none=>exact ⟨_,h,fun i=>rfl,fun n=>rfl,fun n=>rfl⟩
section
variable {E:Env} (hE:tabB E=true)
structure Ran (E:Env) (uid:Nat) (st:St) (o:Oper) (pk:Pk):Prop where
 good:Good E.P o uid pk
 rt:RdT pk.rt st
 ro:RdO pk.ro st
 ok:okPk st uid pk=true
include hE in
theorem xfv {uid:Nat} {st:St} {o:Oper} {k:St->Pk->Prop} (h:stepK E uid st o k):∃ pk st',k st' pk/\Ran E uid st o pk/\SEq (apply st o.dst uid pk) st':=by
 unfold stepK at h;obtain ⟨pk,h,hg,hr,hro⟩:=xs3 hE h
 split at h
 · rename_i hok;obtain ⟨st',h,hs⟩:=xs4 h;exact ⟨pk,st',h,⟨hg,hr,hro,xu4 hok⟩,hs⟩
 · exact h.elim
theorem Ran.wp {uid:Nat} {st:St} {o:Oper} {pk:Pk} (H:Ran E uid st o pk) {cx:Cx} {a:Act} {w:World} {pl:Pl} {Z:Nat->Prop} (R:Rel E.P cx st a w pl Z) (hd:∀ d,o.dst=some d->d<cx.nt)
 {K:Act->World->Prop} {Q:Exit->Act->World->Prop} (hK:∀ a' w' pl' Z',Rel E.P cx (apply st o.dst uid pk) a' w' pl' Z'->K a' w'):o.wp E.P a w K Q :=
 H.good cx st a w pl Z R H.rt H.ro H.ok K Q fun x w' pl' Z' S=>hK _ _ pl' Z' (R.step hd H.ok S)
theorem xja {P:Program} {cx:Cx} {st:St} {a:Act} {w:World} {pl:Pl} {Z:Nat->Prop} (R:Rel P cx st a w pl Z) {ops:Array Oper} {j d:Nat} {b:Bool} (hg:guardD ops.toList j=some d) (hv:lk st.t d=some (.one (.prim (.bool b)))):yielded ops a.tmps j=some b:=by
 obtain ⟨x,h1,h2⟩:=R.tmp d _ hv;obtain ⟨rfl,_⟩:=h2;unfold guardD at hg;rw [x0w] at hg;unfold yielded
 cases ho:ops[j]? with
 | none=>rw [ho] at hg; cases hg
 | some o=>rw [ho] at hg; simp only at hg; simp [hg,h1]
def putT (st:St) (d:Option Nat) (v:TV):St:=⟨match d with|some d=>(d,v)::st.t|none=>st.t,st.s,st.u⟩
def skipS (st:St) (d:Option Nat):St:=putT st d (.tup [])
theorem xfw {P:Program} {cx:Cx} {st:St} {a:Act} {w:World} {pl:Pl} {Z:Nat->Prop} (R:Rel P cx st a w pl Z) {ops:Array Oper} {j d:Nat} (hg:guardD ops.toList j=some d) (hv:lk st.t d=some (.tup [])):yielded ops a.tmps j=none:=by
 obtain ⟨x,h1,h2⟩:=R.tmp d _ hv;obtain ⟨xs,rfl,h2,_⟩:=h2;obtain rfl:xs=[]:=x0k h2;unfold guardD at hg;rw [x0w] at hg;unfold yielded
 cases ho:ops[j]? with
 | none=>rw [ho] at hg; cases hg
 | some o=>rw [ho] at hg; simp only at hg; simp [hg,h1]
theorem Rel.skip {P:Program} {cx:Cx} {st:St} {a:Act} {w:World} {pl:Pl} {Z:Nat->Prop} (R:Rel P cx st a w pl Z) {dst:Option Nat} (hd:∀ d,dst=some d->d<cx.nt):Rel P cx (skipS st dst) (a.put dst undef) w pl Z:=by
 cases dst with
 | none=>exact R.congr ⟨fun _=>rfl,fun _=>rfl,fun _=>rfl⟩
 | some d =>
   have hlt:=hd d rfl;refine ⟨by simp [Act.put,R.tsz],R.df,fun i v hv=>?_,R.obj,R.nd,R.dj,R.lt,R.zlt,R.z0,R.fr,R.io,R.ioa,fun i v hv=>?_,R.us,R.u0,R.gl⟩
   · simp only [skipS,putT,x4] at hv
     split at hv
     · rename_i e;subst e;simp only [x0g] at hv;subst hv;exact ⟨undef,by simp [Act.put,R.tsz,hlt],[],rfl,rfl,by simp⟩
     · rename_i e;obtain ⟨x,h1,h2⟩:=R.tmp i v hv;exact ⟨x,by simp only [Act.put]; rw [Array.getElem?_setIfInBounds_ne e]; exact h1,h2⟩
   · simp only [skipS,putT,x4] at hv
     split at hv
     · simp only [x0g] at hv; subst hv; rfl
     · exact R.ut i v hv
theorem qn {st:St} {d:Option Nat} {v:TV} {k:St->Prop} (h:setK st d v k):k (putT st d v):=by
 unfold setK at h
 split at h<;>exact h
theorem xk2 {st:St} {d:Nat} {v:TV} (h:lk st.t d=some v):SEq st ⟨(d,v)::st.t,st.s,st.u⟩:=by
 refine ⟨fun i=>?_,fun _=>rfl,fun _=>rfl⟩;rw [x4]
 split
 · rename_i e; subst e; exact h.symm
 · rfl
include hE in
theorem xee {cx:Cx} {ops:Array Oper} {rid:Nat} {Q:Exit->Act->World->Prop} (hd:∀ o∈ops.toList,∀ d,o.dst=some d->d<cx.nt):∀ {r:List Oper} {i:Nat} {st:St} {k:St->Prop},ops.toList.drop i=r->vcSeq E ops.toList rid r i st k ->
 ∀ {a:Act} {w:World} {pl:Pl} {Z:Nat->Prop},Rel E.P cx st a w pl Z->(∀ st' a' w' pl' Z',k st'->Rel E.P cx st' a' w' pl' Z'->Q .normal a' w')->wpOps E.P ops Q (List.range' i r.length) a w
 | [],i,st,k,hr,h,a,w,pl,Z,R,hQ=>hQ st a w pl Z h R
 | o::r,i,st,k,hr,h,a,w,pl,Z,R,hQ=>by
   have hi:ops[i]?=some o:=by
    have:ops.toList[i]?=some o:=by rw [<- List.head?_drop,hr]; rfl
    rwa [x0w] at this
   have hr':ops.toList.drop (i+1)=r:=by rw [<- List.tail_drop,hr]; rfl
   have hdo:∀ d,o.dst=some d->d<cx.nt:=hd o (by rw [<- x0w] at hi; exact xzy hi);rw [xz6,List.range'_succ];simp only [wpOps,hi];have run:∀ st,Rel E.P cx st a w pl Z->stepK E ((rid+1)*1000+i) st o (fun st' _=>vcSeq E ops.toList rid r (i+1) st' k)->o.wp E.P a w (wpOps E.P ops Q (List.range' (i+1) r.length)) Q:=by
    intro st R h;obtain ⟨pk,st',h,H,hs⟩:=xfv hE h;exact H.wp R hdo fun a' w' pl' Z' R'=>xee hd hr' h (R'.congr hs) hQ
   have skip:∀ st,Rel E.P cx st a w pl Z->setK st o.dst (.tup []) (fun st=>vcSeq E ops.toList rid r (i+1) st k)->wpOps E.P ops Q (List.range' (i+1) r.length) (a.put o.dst undef) w:=by
    intro st R h;exact xee hd hr' (qn h) (R.skip hdo) hQ
   simp only [vcSeq] at h
   split at h
   · rename_i hg;have hw:Region.wanted o (yielded ops a.tmps)=true:=by simp [Region.wanted,hg]
     rw [if_pos hw];exact .inl (run st R h)
   · rename_i j want hg
     split at h
     · rename_i d hgd
       split at h
       · rename_i b hv;have hy:=xja R hgd hv;have hs:∀ b',b=b'->SEq st ⟨(d,.one (.prim (.bool b')))::st.t,st.s,st.u⟩:=fun b' e=>xk2 (by rw [hv,e]);have hw:Region.wanted o (yielded ops a.tmps)=(b == want):=by simp [Region.wanted,hg,hy]
         rw [hw];cases want<;>cases b<;>simp only [ifB] at h ⊢
         · exact .inl (run _ (R.congr (hs false rfl)) (qn h))
         · exact skip _ (R.congr (hs true rfl)) (qn h)
         · exact skip _ (R.congr (hs false rfl)) (qn h)
         · exact .inl (run _ (R.congr (hs true rfl)) (qn h))
       · rename_i hv;have hy:=xfw R hgd hv;have hw:Region.wanted o (yielded ops a.tmps)=false:=by simp [Region.wanted,hg,hy]
         rw [hw];exact skip _ R h
       · exact h.elim
     · exact h.elim
end
end Go.AM
end
section
namespace Go.AM
open Go
theorem AV.drop_comm (a:AV) (k k':List Nat):(a.drop k).drop k'=(a.drop k').drop k:=by
 cases a<;>simp only [AV.drop]
 · rename_i ns t r; cases h:hitN ns k<;>cases h':hitN ns k'<;>simp [AV.drop,h,h']
 · rename_i ns t r; cases h:hitN ns k<;>cases h':hitN ns k'<;>simp [AV.drop,h,h']
 · rename_i f c; cases h:anyTag k c<;>cases h':anyTag k' c<;>simp [AV.drop,h,h']
theorem TV.drop_comm (a:TV) (k k':List Nat):(a.drop k).drop k'=(a.drop k').drop k:=by
 cases a<;>simp only [TV.drop,x2k,Function.comp_def,AV.drop_comm _ k k']
theorem Ob.drop_comm (a:Ob) (k k':List Nat):(a.drop k).drop k'=(a.drop k').drop k:=by
 cases a<;>simp only [Ob.drop,x2k,Function.comp_def,AV.drop_comm _ k k']
theorem AV.drop_id {a:AV} {k:List Nat} (h:∀ n∈a.tags,n ∉ k):a.drop k=a:=by
 cases a<;>simp only [AV.drop]
 · rename_i ns _ _; rw [xz.2 (show ∀ n∈ns,n ∉ k from h)]; rfl
 · rename_i ns _ _; rw [xz.2 (show ∀ n∈ns,n ∉ k from h)]; rfl
 · rename_i f c;have:anyTag k c=false:=qa.2 fun x hx=>by
    have h':∀ n∈tags1 x,n ∉ k:=fun n hn=>h n (x0i.2 ⟨x,hx,hn⟩);cases x<;>simp only [AV.tag1]<;>exact xz.2 h'
   rw [this]; rfl
theorem xab {cs:List AV} {k:List Nat} (h:∀ n∈cs.flatMap AV.tags,n ∉ k):cs.map (AV.drop k)=cs:=by
 conv=>rhs; rw [<- x21 cs]
 exact x06 fun a ha=>AV.drop_id fun n hn=>h n (x0i.2 ⟨a,ha,hn⟩)
theorem TV.drop_id {a:TV} {k:List Nat} (h:∀ n∈a.tags,n ∉ k):a.drop k=a:=by
 cases a with
 | one a=>simp only [TV.drop]; rw [AV.drop_id h]
 | agg cs=>simp only [TV.drop]; rw [xab h]
 | tup vs =>
   simp only [TV.drop];congr 1
   conv=>rhs; rw [<- x21 vs]
   refine x06 fun p hp=>?_;rw [xab fun n hn=>h n (x0i.2 ⟨p,hp,hn⟩)]; rfl
theorem Ob.drop_id {a:Ob} {k:List Nat} (h:∀ n∈a.tags,n ∉ k):a.drop k=a:=by
 cases a with
 | box row=>simp only [Ob.drop]; rw [xab h]
 | arr t rows p=>rfl
theorem xno {ks:List Nat} {l:List (Nat × TV)} {i:Nat} {v:TV} (h:lk l i=some v) (hn:i ∉ dirtyT ks l):v.drop ks=v:=by
 cases ks with
 | nil=>exact TV.drop_nil v
 | cons k r =>
   refine TV.drop_id fun n hm hk=>hn ?_;simp only [dirtyT];exact xzv.2 ⟨(i,v),List.mem_filter.2 ⟨ym h,xay.2 ⟨n,hm,hk⟩⟩,rfl⟩
theorem xnp {ks:List Nat} {l:List (Nat × Ob)} {i:Nat} {v:Ob} (h:lk l i=some v) (hn:i ∉ dirtyO ks l):v.drop ks=v:=by
 cases ks with
 | nil=>exact Ob.drop_nil v
 | cons k r =>
   refine Ob.drop_id fun n hm hk=>hn ?_;simp only [dirtyO];exact xzv.2 ⟨(i,v),List.mem_filter.2 ⟨ym h,xay.2 ⟨n,hm,hk⟩⟩,rfl⟩
structure It where
 i:Nat
 o:Oper
 g:List (Nat × TV)
 pk:Option Pk
 ft:Foot
def It.P (x:It):Pk:=x.pk.getD ⟨[],[],.tup [],[],[]⟩
def It.ks (x:It) (st:St):List Nat:=olds st x.P.put++x.P.del
def It.ap (rid:Nat) (x:It) (st:St):St:=match x.pk with
 | some p=>apply st x.o.dst ((rid+1)*1000+x.i) p
 | none=>skipS st x.o.dst
theorem It.ap_t (rid:Nat) (x:It) (st:St) (i:Nat):lk (x.ap rid st).t i=if x.o.dst=some i then some x.P.val else (lk st.t i).map (TV.drop (x.ks st)):=by
 unfold It.ap It.ks It.P
 cases x.pk with
 | some p=>exact xcc st x.o.dst _ p i
 | none =>
   simp only [Option.getD_none,skipS,putT,olds,names,x18,List.filter_nil,x0l]
   cases x.o.dst with
   | none=>simp only [reduceCtorEq,x17]; cases lk st.t i<;>simp [TV.drop_nil]
   | some d =>
     simp only [x4,x0g]
     split
     · rfl
     · cases lk st.t i<;>simp [TV.drop_nil]
theorem It.ap_s (rid:Nat) (x:It) (st:St) (n:Nat):lk (x.ap rid st).s n=match lk x.P.put n with
 | some o=>some o
 | none=>if n∈x.P.del then none else (lk st.s n).map (Ob.drop (x.ks st)):=by
 unfold It.ap It.ks It.P
 cases x.pk with
 | some p=>exact vd st x.o.dst _ p n
 | none =>
   simp only [Option.getD_none,skipS,putT,olds,names,x18,List.filter_nil,x0l,lk,x0o,x17];cases lk st.s n<;>simp [Ob.drop_nil]
theorem It.ap_u (rid:Nat) (x:It) (st:St) (m:Nat):memN m (x.ap rid st).u=((x.pk.isSome && Nat.beq ((rid+1)*1000+x.i) m) || memN m st.u):=by
 unfold It.ap
 cases x.pk with
 | some p =>
   simp only [apply,memN,Option.isSome_some,x1h];cases Nat.beq ((rid+1)*1000+x.i) m<;>rfl
 | none=>simp [skipS,putT]
structure It.Can (E:Env) (ops:Array Oper) (rid:Nat) (x:It) (st:St):Prop where
 at_:ops[x.i]?=some x.o
 gt:RdT x.g st
 gd:match x.o.guard with
  | none=>x.pk.isSome=true
  | some (j,want)=>∃ d gv,guardD ops.toList j=some d/\x.g=[(d,gv)]/\((∃ b,gv=.one (.prim (.bool b))/\(b == want)=x.pk.isSome)\/(gv=.tup []/\x.pk=none))
 ran:∀ p,x.pk=some p->Ran E ((rid+1)*1000+x.i) st x.o p
structure It.Foots (x:It):Prop where
 d:x.ft.d=x.o.dst
 i:x.ft.i=x.i
 rt:∀ p∈x.g++x.P.rt,p.1∈x.ft.rt
 ro:∀ p∈x.P.ro,p.1∈x.ft.ro
 wr:x.ft.wr=names x.P.put++x.P.del
 tgt:∀ p∈x.g++x.P.rt,∀ n∈p.2.tags,n∈x.ft.tg
 tgo:∀ p∈x.P.ro,∀ n∈p.2.tags,n∈x.ft.tg
 vt:∀ n∈x.P.val.tags,n∈x.ft.vt
 vto:∀ p∈x.P.put,∀ n∈p.2.tags,n∈x.ft.vt
structure It.Dirty (x:It) (st:St):Prop where
 t:∀ i v,lk st.t i=some v->i ∉ x.ft.dt->v.drop (x.ks st)=v
 s:∀ n o,lk st.s n=some o->n ∉ x.ft.dob->o.drop (x.ks st)=o
structure Apart (p q:Foot):Prop where
 dq:∀ d,p.d=some d->d ∉ q.rt
 dd:∀ d,p.d=some d->q.d≠some d
 dp:∀ d,q.d=some d->d ∉ p.rt
 wo:∀ n∈p.wr,n ∉ q.ro
 ww:∀ n∈p.wr,n ∉ q.wr
 wv:∀ n∈p.wr,n ∉ q.vt
 ow:∀ n∈q.wr,n ∉ p.ro
 gw:∀ n∈q.wr,n ∉ p.tg
 vw:∀ n∈q.wr,n ∉ p.vt
 dt:∀ n∈p.dt,n ∉ q.rt
 dob:∀ n∈p.dob,n ∉ q.ro
theorem xqm {p q:Foot} (h:apart p q=true):Apart p q:=by
 simp only [apart,xzj,x05] at h;obtain ⟨⟨⟨⟨⟨⟨⟨⟨⟨h1,h2⟩,h3⟩,h4⟩,h5⟩,h6⟩,h7⟩,h8⟩,h9⟩,h10⟩:=h;refine ⟨fun d hd=>?_,fun d hd e=>?_,fun d hd=>?_,xz.1 h3,xz.1 h4,xz.1 h5,xz.1 h6,xz.1 h7,xz.1 h8,xz.1 h9,xz.1 h10⟩
 · rw [hd] at h1;simp only [xzj,x05] at h1;exact yr.1 h1.1
 · rw [hd,e] at h1;simp at h1
 · rw [hd] at h2;simp only [x05] at h2;exact yr.1 h2
theorem It.ks_wr {x:It} (F:x.Foots) (st:St):∀ n∈x.ks st,n∈x.ft.wr:=by
 intro n hn;rw [F.wr];rcases xzs.1 hn with h|h
 · exact xzt _ (vf.1 h).1
 · exact xzz _ h
theorem zx {l:List (Nat × Ob)} {n:Nat} (h:n ∉ names l):lk l n=none:=by
 cases hl:lk l n with
 | none=>rfl
 | some o=>exact absurd (x8.1 (by rw [hl]; rfl)) h
theorem xbq {st st':St} {l:List (Nat × Ob)} (h:∀ n∈names l,(lk st'.s n).isSome=(lk st.s n).isSome):olds st' l=olds st l:=by
 unfold olds;exact List.filter_congr fun n hn=>h n hn
theorem xef {st st':St} {uid:Nat} {pk:Pk} (hs:∀ n,n∈names pk.put\/n∈pk.del->(lk st'.s n).isSome=(lk st.s n).isSome) (hu:memN uid st'.u=memN uid st.u):okPk st' uid pk=okPk st uid pk:=by
 unfold okPk
 split
 · rfl
 · rw [hu];have e1:((names pk.put).all fun n=>(memN n (names pk.ro) && (lk st'.s n).isSome) || Nat.beq (n / 64) uid)=((names pk.put).all fun n=>(memN n (names pk.ro) && (lk st.s n).isSome) || Nat.beq (n / 64) uid):=by
    rw [x11,xzl,xzl];constructor<;>intro h n hn
    · rw [<- hs n (.inl hn)]; exact h n hn
    · rw [hs n (.inl hn)]; exact h n hn
   have e2:(pk.del.all fun n=>(lk st'.s n).isSome && !memN n (names pk.put))=(pk.del.all fun n=>(lk st.s n).isSome && !memN n (names pk.put)):=by
    rw [x11,xzl,xzl];constructor<;>intro h n hn
    · rw [<- hs n (.inr hn)]; exact h n hn
    · rw [hs n (.inr hn)]; exact h n hn
   rw [e1,e2]
end Go.AM
end
section
namespace Go.AM
open Go
section
variable {E:Env} {ops:Array Oper} {rid:Nat}
theorem xyb {x y:It} (Fx:x.Foots) (Fy:y.Foots) (A:Apart x.ft y.ft) (hne:x.i≠y.i) {st:St} (Dx:x.Dirty st) (Hy:y.Can E ops rid (x.ap rid st)):y.Can E ops rid st:=by
 have ht:∀ p∈y.g++y.P.rt,lk (x.ap rid st).t p.1=some p.2->lk st.t p.1=some p.2:=by
  intro p hp h;have hr:=Fy.rt p hp;rw [It.ap_t,if_neg (fun e=>A.dq p.1 (by rw [Fx.d]; exact e) hr)] at h;obtain ⟨v,h1,h2⟩:=xz0.1 h;rw [Dx.t p.1 v h1 fun hd=>A.dt p.1 hd hr] at h2;rw [h1,h2]
 have hs:∀ p∈y.P.ro,lk (x.ap rid st).s p.1=some p.2->lk st.s p.1=some p.2:=by
  intro p hp h;have hr:=Fy.ro p hp;have hw:p.1 ∉ x.ft.wr:=fun hw=>A.wo _ hw hr;rw [Fx.wr,xzs] at hw;rw [It.ap_s,zx fun h=>hw (.inl h)] at h;simp only [if_neg fun h=>hw (.inr h)] at h;obtain ⟨v,h1,h2⟩:=xz0.1 h;rw [Dx.s p.1 v h1 fun hd=>A.dob p.1 hd hr] at h2;rw [h1,h2]
 have hhas:∀ n,n∈names y.P.put\/n∈y.P.del->(lk st.s n).isSome=(lk (x.ap rid st).s n).isSome:=by
  intro n hn;have hw:n ∉ x.ft.wr:=fun hw=>A.ww n hw (by rw [Fy.wr]; exact xzs.2 hn);rw [Fx.wr,xzs] at hw;rw [It.ap_s,zx fun h=>hw (.inl h)];simp only [if_neg fun h=>hw (.inr h)];cases lk st.s n<;>rfl
 refine ⟨Hy.at_,fun p hp=>ht p (xzt _ hp) (Hy.gt p hp),Hy.gd,fun p hp=>?_⟩;have hP:y.P=p:=by unfold It.P; rw [hp]; rfl
 have R:=Hy.ran p hp;rw [hP] at ht hs hhas;refine ⟨R.good,fun q hq=>ht q (xzz _ hq) (R.rt q hq),fun q hq=>hs q hq (R.ro q hq),?_⟩;rw [<- R.ok];refine xef hhas ?_;rw [It.ap_u];have:Nat.beq ((rid+1)*1000+x.i) ((rid+1)*1000+y.i)=false:=by
  cases hb:Nat.beq ((rid+1)*1000+x.i) ((rid+1)*1000+y.i) with
  | false=>rfl
  | true=>have:=xz2 hb; omega
 simp [this]
theorem xyc {x y:It} (Fx:x.Foots) (Fy:y.Foots) (A:Apart x.ft y.ft) (hne:x.i≠y.i) {st:St} (Hx:x.Can E ops rid st) (Dx:x.Dirty st):x.Can E ops rid (y.ap rid st)/\x.Dirty (y.ap rid st):=by
 have hky:=It.ks_wr Fy st;have ht:∀ p∈x.g++x.P.rt,lk st.t p.1=some p.2->lk (y.ap rid st).t p.1=some p.2:=by
  intro p hp h;rw [It.ap_t,if_neg (fun e=>A.dp p.1 (by rw [Fy.d]; exact e) (Fx.rt p hp)),h,x0y];rw [TV.drop_id fun n hn hk=>A.gw n (hky n hk) (Fx.tgt p hp n hn)]
 have hs:∀ p∈x.P.ro,lk st.s p.1=some p.2->lk (y.ap rid st).s p.1=some p.2:=by
  intro p hp h;have hw:p.1 ∉ y.ft.wr:=fun hw=>A.ow _ hw (Fx.ro p hp);rw [Fy.wr,xzs] at hw;rw [It.ap_s,zx fun h=>hw (.inl h)];simp only [if_neg fun h=>hw (.inr h)];rw [h,x0y,Ob.drop_id fun n hn hk=>A.gw n (hky n hk) (Fx.tgo p hp n hn)]
 have hhas:∀ n,n∈names x.P.put\/n∈x.P.del->(lk (y.ap rid st).s n).isSome=(lk st.s n).isSome:=by
  intro n hn;have hw:n ∉ y.ft.wr:=fun hw=>A.ww n (by rw [Fx.wr]; exact xzs.2 hn) hw;rw [Fy.wr,xzs] at hw;rw [It.ap_s,zx fun h=>hw (.inl h)];simp only [if_neg fun h=>hw (.inr h)];cases lk st.s n<;>rfl
 have hkx:x.ks (y.ap rid st)=x.ks st:=by
  unfold It.ks;rw [xbq fun n hn=>hhas n (.inl hn)]
 refine ⟨⟨Hx.at_,fun p hp=>ht p (xzt _ hp) (Hx.gt p hp),Hx.gd,fun p hp=>?_⟩,⟨fun i v h hn=>?_,fun n o h hn=>?_⟩⟩
 · have hP:x.P=p:=by unfold It.P; rw [hp]; rfl
   have R:=Hx.ran p hp;rw [hP] at ht hs hhas;refine ⟨R.good,fun q hq=>ht q (xzz _ hq) (R.rt q hq),fun q hq=>hs q hq (R.ro q hq),?_⟩;rw [<- R.ok];refine xef hhas ?_;rw [It.ap_u];have:Nat.beq ((rid+1)*1000+y.i) ((rid+1)*1000+x.i)=false:=by
    cases hb:Nat.beq ((rid+1)*1000+y.i) ((rid+1)*1000+x.i) with
    | false=>rfl
    | true=>have:=xz2 hb; omega
   simp [this]
 · rw [hkx];rw [It.ap_t] at h
   split at h
   · cases h;exact TV.drop_id fun n hn' hk=>A.wv n (It.ks_wr Fx st n hk) (Fy.vt n hn')
   · obtain ⟨v0,h1,rfl⟩:=xz0.1 h;rw [TV.drop_comm,Dx.t i v0 h1 hn]
 · rw [hkx];rw [It.ap_s] at h
   split at h
   · rename_i o' hl;cases h;exact Ob.drop_id fun m hm hk=>A.wv m (It.ks_wr Fx st m hk) (Fy.vto _ (ym hl) m hm)
   · split at h
     · cases h
     · obtain ⟨v0,h1,rfl⟩:=xz0.1 h;rw [Ob.drop_comm,Dx.s n v0 h1 hn]
theorem xw9 {x y:It} (Fx:x.Foots) (Fy:y.Foots) (A:Apart x.ft y.ft) (st:St):SEq (y.ap rid (x.ap rid st)) (x.ap rid (y.ap rid st)):=by
 have hX:∀ n,n∈names x.P.put\/n∈x.P.del->n ∉ names y.P.put/\n ∉ y.P.del:=fun n hn=>by
  have:=A.ww n (by rw [Fx.wr]; exact xzs.2 hn);rw [Fy.wr,xzs] at this;exact ⟨fun h=>this (.inl h),fun h=>this (.inr h)⟩
 have hY:∀ n,n∈names y.P.put\/n∈y.P.del->n ∉ names x.P.put/\n ∉ x.P.del:=fun n hn =>
  ⟨fun h=>by have:=hX n (.inl h); exact hn.elim this.1 this.2,fun h=>by have:=hX n (.inr h); exact hn.elim this.1 this.2⟩
 have hkx:x.ks (y.ap rid st)=x.ks st:=by
  unfold It.ks;rw [xbq fun n hn=>?_];obtain ⟨h1,h2⟩:=hX n (.inl hn);rw [It.ap_s,zx h1];simp only [if_neg h2];cases lk st.s n<;>rfl
 have hky:y.ks (x.ap rid st)=y.ks st:=by
  unfold It.ks;rw [xbq fun n hn=>?_];obtain ⟨h1,h2⟩:=hY n (.inl hn);rw [It.ap_s,zx h1];simp only [if_neg h2];cases lk st.s n<;>rfl
 refine ⟨fun i=>?_,fun n=>?_,fun m=>?_⟩
 · rw [It.ap_t,It.ap_t,It.ap_t,It.ap_t,hkx,hky];by_cases h1:x.o.dst=some i
   · have h2:¬ y.o.dst=some i:=fun e=>A.dd i (by rw [Fx.d]; exact h1) (by rw [Fy.d]; exact e);rw [if_pos h1,if_neg h2,if_pos h1,x0y,TV.drop_id fun n hn hk=>A.vw n (It.ks_wr Fy st n hk) (Fx.vt n hn)]
   · by_cases h2:y.o.dst=some i
     · rw [if_neg h1,if_pos h2,if_pos h2,x0y,TV.drop_id fun n hn hk=>A.wv n (It.ks_wr Fx st n hk) (Fy.vt n hn)]
     · rw [if_neg h1,if_neg h2,if_neg h2,if_neg h1]
       cases lk st.t i with
       | none=>rfl
       | some v=>simp only [x0y,TV.drop_comm v]
 · rw [It.ap_s,It.ap_s,It.ap_s,It.ap_s,hkx,hky];by_cases hx:n∈names x.P.put\/n∈x.P.del
   · obtain ⟨h1,h2⟩:=hX n hx;rw [zx h1];simp only [if_neg h2]
     cases hl:lk x.P.put n with
     | some o=>simp only [x0y]; rw [Ob.drop_id fun m hm hk=>A.vw m (It.ks_wr Fy st m hk) (Fx.vto _ (ym hl) m hm)]
     | none =>
       have hd:n∈x.P.del:=hx.resolve_left fun h=>by have:=x8.2 h; rw [hl] at this; cases this
       simp only [if_pos hd,Option.map_none]
   · have hx1:n ∉ names x.P.put:=fun h=>hx (.inl h);have hx2:n ∉ x.P.del:=fun h=>hx (.inr h);rw [zx hx1];simp only [if_neg hx2]
     cases hl:lk y.P.put n with
     | some o=>simp only [x0y]; rw [Ob.drop_id fun m hm hk=>A.wv m (It.ks_wr Fx st m hk) (Fy.vto _ (ym hl) m hm)]
     | none =>
       simp only
       split
       · rfl
       · cases lk st.s n with
         | none=>rfl
         | some v=>simp only [x0y,Ob.drop_comm v]
 · rw [It.ap_u,It.ap_u,It.ap_u,It.ap_u];cases (x.pk.isSome && Nat.beq ((rid+1)*1000+x.i) m)<;>cases (y.pk.isSome && Nat.beq ((rid+1)*1000+y.i) m)<;>rfl
end
end Go.AM
end
section
namespace Go.AM
open Go
section
variable {E:Env} {ops:Array Oper} {rid:Nat}
theorem It.ks_congr {x:It} {st st':St} (h:SEq st st'):x.ks st'=x.ks st:=by
 unfold It.ks;rw [xbq (st:=st) (st':=st') fun n _=>by rw [h.s]]
theorem It.ap_congr {x:It} {st st':St} (h:SEq st st'):SEq (x.ap rid st) (x.ap rid st'):=by
 refine ⟨fun i=>?_,fun n=>?_,fun m=>?_⟩
 · rw [It.ap_t,It.ap_t,It.ks_congr h,h.t]
 · rw [It.ap_s,It.ap_s,It.ks_congr h,h.s]
 · rw [It.ap_u,It.ap_u,h.u]
theorem Ran.congr {uid:Nat} {st st':St} {o:Oper} {pk:Pk} (h:SEq st st') (H:Ran E uid st o pk):Ran E uid st' o pk :=
 ⟨H.good,fun p hp=>(h.t _).trans (H.rt p hp),fun p hp=>(h.s _).trans (H.ro p hp),(xef (fun n _=>by rw [h.s]) (h.u _)).trans H.ok⟩
theorem It.Can.congr {x:It} {st st':St} (h:SEq st st') (H:x.Can E ops rid st):x.Can E ops rid st' :=
 ⟨H.at_,fun p hp=>(h.t _).trans (H.gt p hp),H.gd,fun p hp=>(H.ran p hp).congr h⟩
theorem It.Dirty.congr {x:It} {st st':St} (h:SEq st st') (D:x.Dirty st):x.Dirty st' :=
 ⟨fun i v hv hn=>by rw [It.ks_congr h]; exact D.t i v ((h.t i).symm.trans hv) hn,fun n o ho hn=>by rw [It.ks_congr h]; exact D.s n o ((h.s n).symm.trans ho) hn⟩
inductive Trc (E:Env) (ops:Array Oper) (rid:Nat):St->List It->St->Prop
 | nil {st st':St} (h:SEq st st'):Trc E ops rid st [] st'
 | cons {st:St} {x:It} {r:List It} {st':St} (H:x.Can E ops rid st) (F:x.Foots) (D:x.Dirty st) (t:Trc E ops rid (x.ap rid st) r st'):Trc E ops rid st (x::r) st'
theorem Trc.congr {st:St} {l:List It} {f:St} (t:Trc E ops rid st l f):∀ {st0:St},SEq st st0->Trc E ops rid st0 l f:=by
 induction t with
 | nil h=>intro st0 g; exact .nil (g.symm.trans h)
 | cons H F D t ih=>intro st0 g; exact .cons (H.congr g) F (D.congr g) (ih (It.ap_congr g))
theorem bubble {y:It} {L2:List It} {f:St}:∀ {L1:List It} {st:St},Trc E ops rid st (L1++y::L2) f->(∀ x∈L1,Apart x.ft y.ft/\x.i≠y.i)->y.Can E ops rid st/\y.Foots/\Trc E ops rid (y.ap rid st) (L1++L2) f
 | [],st,t,_=>by
   cases t with
   | cons H F D t=>exact ⟨H,F,t⟩
 | x::L1,st,t,h=>by
   cases t with
   | cons H F D t =>
     obtain ⟨Hy,Fy,t'⟩:=bubble t fun z hz=>h z (xzp _ hz);obtain ⟨A,hne⟩:=h x (xz5 ..);obtain ⟨H',D'⟩:=xyc (E:=E) (ops:=ops) F Fy A hne H D;exact ⟨xyb F Fy A hne D Hy,Fy,.cons H' F D' (t'.congr (xw9 F Fy A st))⟩
theorem It.wanted {x:It} {st:St} (H:x.Can E ops rid st) {cx:Cx} {a:Act} {w:World} {pl:Pl} {Z:Nat->Prop} (R:Rel E.P cx st a w pl Z):Region.wanted x.o (yielded ops a.tmps)=x.pk.isSome:=by
 have hg:=H.gd;unfold Region.wanted
 cases hgu:x.o.guard with
 | none=>rw [hgu] at hg; exact hg.symm
 | some p =>
   obtain ⟨j,want⟩:=p;rw [hgu] at hg;obtain ⟨d,gv,h1,h2,h3⟩:=hg;have hv:=H.gt (d,gv) (by rw [h2]; simp);rcases h3 with ⟨b,rfl,h3⟩|⟨rfl,h3⟩
   · have:=xja R h1 hv;simp only [this,<- h3];cases b<;>cases want<;>rfl
   · have:=xfw R h1 hv;simp only [this,h3];cases want<;>rfl
theorem xhi:∀ {l:List Oper} {i:Nat},edgesOk i l=true->∀ (j:Nat) (o:Oper),l[j]?=some o->∀ e∈o.after,Region.binds .any e=true->e.on<i+j
 | [],i,h,j,o,hj,e,he,hbi=>by simp at hj
 | o0::r,i,h,j,o,hj,e,he,hbi=>by
   simp only [edgesOk,xzj,Array.all_toList] at h
   cases j with
   | zero =>
     simp at hj; subst hj;have:=Array.all_eq_true_iff_forall_mem.1 h.1 e he;rw [hbi,x3t,Bool.false_or] at this;have:=x0v (show Nat.ble (e.on+1) i=true from this);omega
   | succ j =>
     have:=xhi h.2 j o (by simpa using hj) e he hbi;omega
theorem xo8 {a:Array Bool} {k:Nat} (h:a.getD k false=true):a.getD k true=true:=by
 rw [x0s] at h ⊢
 cases hk:a[k]? with
 | none=>rfl
 | some b=>rw [hk] at h; exact h
theorem xnq {all:List Oper} {L:Nat->Prop} (hcl:∀ (j:Nat) (o:Oper),all[j]?=some o->L j->∀ e∈o.after.toList,Region.binds .any e=true->L e.on) :
 ∀ {n j i:Nat},waitsN all n j i=true->(∀ o,all[j]?=some o->∀ e∈o.after.toList,Region.binds .any e=true->L e.on)->L i:=by
 have dir:∀ {j i:Nat},waitsD all j i=true->(∀ o,all[j]?=some o->∀ e∈o.after.toList,Region.binds .any e=true->L e.on)->L i:=by
  intro j i h he;unfold waitsD at h
  cases ho:all[j]? with
  | none=>rw [ho] at h; cases h
  | some o =>
    rw [ho] at h;simp only [List.any_eq_true,xzj] at h;obtain ⟨e,h1,h2,h3⟩:=h;have:=xz2 h3;exact this▸he o ho e h1 h2
 intro n
 induction n with
 | zero=>intro j i h he; exact dir h he
 | succ n ih =>
   intro j i h he;simp only [waitsN,x04] at h;rcases h with h|h
   · exact dir h he
   · cases ho:all[j]? with
     | none=>rw [ho] at h; cases h
     | some o =>
       rw [ho] at h;simp only [List.any_eq_true,xzj] at h;obtain ⟨e,h1,⟨h2,_⟩,h3⟩:=h;exact ih h3 fun o' ho'=>hcl _ o' ho' (he o ho e h1 h2)
theorem xs5 {cx:Cx} {Q:Exit->Act->World->Prop} {f:St} (hd:∀ o∈ops.toList,∀ d,o.dst=some d->d<cx.nt) (hed:edgesOk 0 ops.toList=true) (hQ:∀ a w pl Z,Rel E.P cx f a w pl Z->Q .normal a w) :
 ∀
  {fuel:Nat} {L:List It} {listed:Array Bool} {st:St} {a:Act} {w:World} {pl:Pl} {Z:Nat->Prop},Trc E ops rid st L f->L.Pairwise (fun p q=>waits ops.toList q.i p.i=true\/Apart p.ft q.ft)->L.Pairwise (fun p q=>p.i<q.i) ->
  (∀ x∈L,x.i<ops.size)->listed.size=ops.size->(∀ j,j<ops.size->(listed.getD j true=false↔∃ x∈L,x.i=j))->(∀ (j:Nat) (o:Oper),ops.toList[j]?=some o->listed.getD j true=true->∀ e∈o.after.toList,Region.binds .any e=true->listed.getD e.on true=true)->L.length<=fuel->Rel E.P cx st a w pl Z->wpAny E.P .any ops Q fuel listed a w:=by
 intro fuel;have nil:∀ {st:St} {a:Act} {w:World} {pl:Pl} {Z:Nat->Prop},Trc E ops rid st [] f->Rel E.P cx st a w pl Z->Q .normal a w:=by
  intro st a w pl Z t R
  cases t with
  | nil h=>exact hQ _ _ _ _ (R.congr h)
 induction fuel with
 | zero =>
   intro L listed st a w pl Z t hp hi hlt hls hl hcl hf R;have:L=[]:=x0k (by omega);subst this;refine ⟨List.eq_nil_iff_forall_not_mem.2 fun j hj=>?_,nil t R⟩;obtain ⟨h1,o,h2,_⟩:=mem_ready.1 hj;obtain ⟨x,hx,_⟩:=(hl j (x0t.1 h2).1).1 h1;cases hx
 | succ fuel ih =>
   intro L listed st a w pl Z t hp hi hlt hls hl hcl hf R;have hgetD:∀ j,j<ops.size->listed.getD j false=listed.getD j true:=by
    intro j hj;have:j<listed.size:=by omega
    simp [x0s,this]
   refine ⟨fun hnil=>?_,fun j hj=>?_⟩
   · cases L with
     | nil=>exact nil t R
     | cons x r =>
       exfalso;have hxl:=hlt x (xz5 ..);have hxo:ops[x.i]?=some x.o:=by cases t with|cons H F D t=>exact H.at_
       have:x.i∈Region.ready .any ops listed:=by
        refine mem_ready.2 ⟨(hl x.i hxl).2 ⟨x,xz5 ..,rfl⟩,x.o,hxo,fun e he hbi=>?_⟩;have he':=xhi hed x.i x.o (by rw [x0w]; exact hxo) e he hbi;have hlt':e.on<ops.size:=by omega
        rw [hgetD _ hlt']
        cases hb:listed.getD e.on true with
        | true=>rfl
        | false =>
          obtain ⟨z,hz,hze⟩:=(hl _ hlt').1 hb;rcases xzn.1 hz with rfl|hz
          · omega
          · have:=(x3s.1 hi).1 z hz; omega
       rw [hnil] at this;cases this
   · obtain ⟨h1,o,h2,h3⟩:=mem_ready.1 hj;have hjs:=(x0t.1 h2).1;obtain ⟨y,hy,rfl⟩:=(hl j hjs).1 h1;obtain ⟨L1,L2,rfl⟩:=List.append_of_mem hy;have hp':=List.pairwise_append.1 hp;have hi':=List.pairwise_append.1 hi;have hne:∀ x∈L1++L2,x.i≠y.i:=by
      intro x hx;rcases xzs.1 hx with hx|hx
      · have:=hi'.2.2 x hx y (xz5 ..); omega
      · have:=(x3s.1 hi'.2.1).1 x hx; omega
     obtain ⟨Hy,Fy,t'⟩:=bubble t fun x hx=>by
      refine ⟨?_,hne x (xzt _ hx)⟩;refine (hp'.2.2 x hx y (xz5 ..)).resolve_left fun hw=>?_;have hxl:=hlt x (xzt _ hx);have h4:=xnq (L:=fun j=>listed.getD j true=true) hcl hw fun o' ho' e he hb=>by
       rw [x0w,h2] at ho';obtain rfl:=x0f ho';exact xo8 (h3 e (Array.mem_toList_iff.1 he) hb)
      rw [(hl x.i hxl).2 ⟨x,xzt _ hx,rfl⟩] at h4;cases h4
     have hyo:o=y.o:=by rw [Hy.at_] at h2; exact (x0f h2).symm
     subst hyo;have hsub:(L1++L2).Sublist (L1++y::L2):=x2q (x20 _) (List.sublist_cons_self _ _)
     have next:∀ {a':Act} {w':World} {pl':Pl} {Z':Nat->Prop},Rel E.P cx (y.ap rid st) a' w' pl' Z'->wpAny E.P .any ops Q fuel (listed.setIfInBounds y.i true) a' w':=by
      intro a' w' pl' Z' R';refine ih t' (hp.sublist hsub) (hi.sublist hsub) (fun x hx=>hlt x (hsub.subset hx)) (by simpa using hls) (fun j hj=>?_) (fun j o' ho' hL e he hb=>?_) (by simp at hf ⊢; omega) R';by_cases hji:y.i=j
      · subst hji;constructor
        · intro h;rw [x0s,Array.getElem?_setIfInBounds_self_of_lt (by omega)] at h;cases h
        · rintro ⟨x,hx,e⟩; exact absurd e (hne x hx)
      · rw [getD_set_ne true hji,hl j hj];constructor
        · rintro ⟨x,hx,rfl⟩;refine ⟨x,?_,rfl⟩;rcases xzs.1 hx with hx|hx
          · exact xzt _ hx
          · rcases xzn.1 hx with rfl|hx
            · exact absurd rfl hji
            · exact xzz _ hx
        · rintro ⟨x,hx,rfl⟩; exact ⟨x,hsub.subset hx,rfl⟩
      · have mono:∀ {k:Nat},listed.getD k true=true->(listed.setIfInBounds y.i true).getD k true=true:=by
         intro k hk;by_cases hyk:y.i=k
         · subst hyk;rw [x0s,Array.getElem?_setIfInBounds_self_of_lt (by omega)];rfl
         · rw [getD_set_ne true hyk]; exact hk
        by_cases hyj:y.i=j
        · subst hyj;rw [x0w,Hy.at_] at ho';obtain rfl:=x0f ho';exact mono (xo8 (h3 e (Array.mem_toList_iff.1 he) hb))
        · rw [getD_set_ne true hyj] at hL;exact mono (hcl j o' ho' hL e he hb)
     have hdy:∀ d,y.o.dst=some d->d<cx.nt:=hd y.o (by have:=Hy.at_; rw [<- x0w] at this; exact xzy this);unfold wpOp;simp only [Hy.at_,It.wanted Hy R]
     cases hpk:y.pk with
     | some p =>
       simp only [Option.isSome_some,if_true];refine .inl ((Hy.ran p hpk).wp R hdy fun a' w' pl' Z' R'=>next (pl':=pl') (Z':=Z') ?_);unfold It.ap; rw [hpk]; exact R'
     | none =>
       simp only [Option.isSome_none,x2u,x17]
       refine next (pl':=pl) (Z':=Z) ?_
       unfold It.ap; rw [hpk]; exact R.skip hdy
end
end Go.AM
end
section
namespace Go.AM
open Go
section
variable {E:Env} (hE:tabB E=true) {ops:Array Oper} {rid:Nat}
theorem xs6 {i:Nat} {o:Oper} {gv:List (Nat × TV)} {st:St} {pk:Pk} (hg:∀ p∈gv,p.2.tags=[]):It.Foots ⟨i,o,gv,some pk,footOf i o (gv.map (·.1)) st pk⟩:=by
 refine ⟨rfl,rfl,fun p hp=>?_,fun p hp=>?_,rfl,fun p hp n hn=>?_,fun p hp n hn=>?_,fun n hn=>?_,fun p hp n hn=>?_⟩
 · rcases xzs.1 hp with h|h
   · exact xzt _ (xzv.2 ⟨p,h,rfl⟩)
   · exact xzz _ (xzv.2 ⟨p,h,rfl⟩)
 · exact xzv.2 ⟨p,hp,rfl⟩
 · rcases xzs.1 hp with h|h
   · rw [hg p h] at hn; cases hn
   · exact xzt _ (x0i.2 ⟨p,h,hn⟩)
 · exact xzz _ (x0i.2 ⟨p,hp,hn⟩)
 · exact xzt _ hn
 · exact xzz _ (x0i.2 ⟨p,hp,hn⟩)
theorem xs7 {i:Nat} {o:Oper} {gv:List (Nat × TV)} {st:St} {pk:Pk}:It.Dirty ⟨i,o,gv,some pk,footOf i o (gv.map (·.1)) st pk⟩ st :=
 ⟨fun j v hv hn=>xno hv hn,fun n o ho hn=>xnp ho hn⟩
theorem xqn {i:Nat} {o:Oper} {d:Nat} {b:Bool}:It.Foots ⟨i,o,[(d,.one (.prim (.bool b)))],none,⟨i,o.dst,[d],[],[],[],[],[],[]⟩⟩:=by
 refine ⟨rfl,rfl,fun p hp=>?_,fun p hp=>?_,rfl,fun p hp n hn=>?_,fun p hp n hn=>?_,fun n hn=>?_,fun p hp n hn=>?_⟩
 · simp [It.P] at hp; subst hp; simp
 · simp [It.P] at hp
 · simp [It.P] at hp; subst hp; simp [TV.tags,AV.tags,tags1] at hn
 · simp [It.P] at hp
 · simp [It.P,TV.tags,AV.tags,tags1] at hn
 · simp [It.P] at hp
theorem xqo {i:Nat} {o:Oper} {d:Nat} {b:Bool} {st:St}:It.Dirty ⟨i,o,[(d,.one (.prim (.bool b)))],none,⟨i,o.dst,[d],[],[],[],[],[],[]⟩⟩ st :=
 ⟨fun j v hv hn=>TV.drop_nil v,fun n o ho hn=>Ob.drop_nil o⟩
theorem xnr {i:Nat} {o:Oper} {d:Nat}:It.Foots ⟨i,o,[(d,.tup [])],none,⟨i,o.dst,[d],[],[],[],[],[],[]⟩⟩:=by
 refine ⟨rfl,rfl,fun p hp=>?_,fun p hp=>?_,rfl,fun p hp n hn=>?_,fun p hp n hn=>?_,fun n hn=>?_,fun p hp n hn=>?_⟩
 · simp [It.P] at hp; subst hp; simp
 · simp [It.P] at hp
 · simp [It.P] at hp; subst hp; simp [TV.tags,AV.tags,tags1] at hn
 · simp [It.P] at hp
 · simp [It.P,TV.tags,AV.tags,tags1] at hn
 · simp [It.P] at hp
theorem xns {i:Nat} {o:Oper} {d:Nat} {st:St}:It.Dirty ⟨i,o,[(d,.tup [])],none,⟨i,o.dst,[d],[],[],[],[],[],[]⟩⟩ st :=
 ⟨fun j v hv hn=>TV.drop_nil v,fun n o ho hn=>Ob.drop_nil o⟩
include hE in
theorem xbr:∀ {r:List Oper} {i:Nat} {st:St} {k:St->List Foot->Prop},ops.toList.drop i=r->vcOps E ops.toList rid r i st k ->
 ∃ (its:List It) (st':St) (fs:List Foot),Trc E ops rid st its st'/\k st' fs/\its.map (·.ft)=fs/\its.map (·.i)=List.range' i r.length
 | [],i,st,k,hr,h=>⟨[],st,[],.nil (SEq.refl st),h,rfl,rfl⟩
 | o::r,i,st,k,hr,h=>by
   have hi:ops[i]?=some o:=by
    have:ops.toList[i]?=some o:=by rw [<- List.head?_drop,hr]; rfl
    rwa [x0w] at this
   have hr':ops.toList.drop (i+1)=r:=by rw [<- List.tail_drop,hr]; rfl
   rw [xz6,List.range'_succ]
   have run:∀ (st0 st:St) (gv:List (Nat × TV)),SEq st st0->RdT gv st->(∀ p∈gv,p.2.tags=[]) ->
    (match o.guard with
      | none=>True
      | some (j,want)=>∃ d v,guardD ops.toList j=some d/\gv=[(d,v)]/\((∃ b,v=.one (.prim (.bool b))/\(b == want)=true)\/(v=.tup []/\some ()=none))) ->
    stepK E ((rid+1)*1000+i) st o (fun st' pk=>footK i o (gv.map (·.1)) st pk fun ft=>vcOps E ops.toList rid r (i+1) st' fun st'' fs=>k st'' (ft::fs)) ->
    ∃ (its:List It) (st':St) (fs:List Foot),Trc E ops rid st0 its st'/\k st' fs/\its.map (·.ft)=fs/\its.map (·.i)=i::List.range' (i+1) r.length:=by
    intro st0 st gv hs hgv hgt hgd h;obtain ⟨pk,st1,h,H,hs1⟩:=xfv hE h;rw [xgd] at h;obtain ⟨its,st',fs,t,hk,e1,e2⟩:=xbr hr' h;refine ⟨⟨i,o,gv,some pk,footOf i o (gv.map (·.1)) st pk⟩::its,st',_,Trc.congr (.cons ⟨hi,hgv,?_,fun p hp=>?_⟩ (xs6 hgt) xs7 ?_) hs,hk,by simp [e1],by simp [e2]⟩
    · show (match o.guard with|none=>_|some (j,want)=>_)
      cases hgu:o.guard with
      | none=>rfl
      | some q =>
        obtain ⟨j,want⟩:=q;rw [hgu] at hgd;obtain ⟨d,v,h1,h2,h3⟩:=hgd;exact ⟨d,v,h1,h2,h3.imp_right fun h=>absurd h.2 (by simp)⟩
    · cases hp; exact H
    · exact t.congr hs1.symm
   have skip:∀ (st0 st:St) (d j:Nat) (b want:Bool),SEq st st0->lk st.t d=some (.one (.prim (.bool b)))->o.guard=some (j,want)->guardD ops.toList j=some d->(b == want)=false ->
    setK st o.dst (.tup []) (fun st=>vcOps E ops.toList rid r (i+1) st fun st'' fs=>k st'' (⟨i,o.dst,[d],[],[],[],[],[],[]⟩::fs)) ->
    ∃ (its:List It) (st':St) (fs:List Foot),Trc E ops rid st0 its st'/\k st' fs/\its.map (·.ft)=fs/\its.map (·.i)=i::List.range' (i+1) r.length:=by
    intro st0 st d j b want hs hv hgu hgd hbw h;obtain ⟨its,st',fs,t,hk,e1,e2⟩:=xbr hr' (qn h);refine ⟨⟨i,o,[(d,.one (.prim (.bool b)))],none,⟨i,o.dst,[d],[],[],[],[],[],[]⟩⟩::its,st',_,Trc.congr (.cons ⟨hi,fun p hp=>by simp at hp; subst hp; exact hv,?_,fun p hp=>by cases hp⟩ xqn xqo t) hs,hk,by simp [e1],by simp [e2]⟩;show (match o.guard with|none=>_|some (j,want)=>_);rw [hgu];exact ⟨d,_,hgd,rfl,.inl ⟨b,rfl,hbw⟩⟩
   simp only [vcOps] at h
   split at h
   · rename_i hg;exact run st st [] (SEq.refl st) RdT.nil (by simp) (by rw [hg]; trivial) h
   · rename_i j want hg
     split at h
     · rename_i d hgd
       split at h
       · rename_i b hv;have hs:∀ b',b=b'->SEq ⟨(d,.one (.prim (.bool b')))::st.t,st.s,st.u⟩ st:=fun b' e=>(xk2 (by rw [hv,e])).symm;have hl:∀ b',lk (putT st (some d) (.one (.prim (.bool b')))).t d=some (.one (.prim (.bool b'))):=fun b'=>by simp [putT,x4]
         cases want<;>cases b<;>simp only [ifB] at h
         · exact run st _ [(d,.one (.prim (.bool false)))] (hs false rfl) (fun p hp=>by simp at hp; subst hp; exact hl false) (by simp [TV.tags,AV.tags,tags1]) (by rw [hg]; exact ⟨d,_,hgd,rfl,.inl ⟨false,rfl,rfl⟩⟩) (qn h)
         · exact skip st _ d j true false (hs true rfl) (hl true) hg hgd rfl (qn h)
         · exact skip st _ d j false true (hs false rfl) (hl false) hg hgd rfl (qn h)
         · exact run st _ [(d,.one (.prim (.bool true)))] (hs true rfl) (fun p hp=>by simp at hp; subst hp; exact hl true) (by simp [TV.tags,AV.tags,tags1]) (by rw [hg]; exact ⟨d,_,hgd,rfl,.inl ⟨true,rfl,rfl⟩⟩) (qn h)
       · rename_i hv;obtain ⟨its,st',fs,t,hk,e1,e2⟩:=xbr hr' (qn h);refine ⟨⟨i,o,[(d,.tup [])],none,⟨i,o.dst,[d],[],[],[],[],[],[]⟩⟩::its,st',_,.cons ⟨hi,fun p hp=>by simp at hp; subst hp; exact hv,?_,fun p hp=>by cases hp⟩ xnr xns t,hk,by simp [e1],by simp [e2]⟩;show (match o.guard with|none=>_|some (j,want)=>_);rw [hg];exact ⟨d,_,hgd,rfl,.inr ⟨rfl,rfl⟩⟩
       · exact h.elim
     · exact h.elim
theorem xfx {all:List Oper}:∀ {its:List It},(∀ x∈its,x.ft.i=x.i)->drawOk all (its.map (·.ft))=true->its.Pairwise fun p q=>waits all q.i p.i=true\/Apart p.ft q.ft
 | [],_,_=>.nil
 | x::r,hx,h=>by
   simp only [x0d,drawOk,xzj,xzl,x04] at h;refine .cons (fun y hy=>?_) (xfx (fun z hz=>hx z (xzp _ hz)) h.2);have:=h.1 y.ft (xzv.2 ⟨y,hy,rfl⟩);rw [hx x (xz5 ..),hx y (xzp _ hy)] at this;rcases this with h|h|h
   · exact .inl (by unfold waits; simp only [waitsN,h,Bool.true_or])
   · exact .inr (xqm h)
   · exact .inl h
theorem Trc.foots {st:St} {l:List It} {f:St} (t:Trc E ops rid st l f):∀ x∈l,x.Foots:=by
 induction t with
 | nil h=>intro x hx; cases hx
 | cons H F D t ih =>
   intro x hx;rcases xzn.1 hx with rfl|hx
   · exact F
   · exact ih x hx
theorem Rel.drawn {P:Program} {cx:Cx} {st:St} {a:Act} {w:World} {pl:Pl} {Z:Nat->Prop} (R:Rel P cx st a w pl Z) (n:Nat):Rel P cx st a { w with drawn:=n } pl Z:=by
 have hA0:∀ {v:AV} {x:Value},A0 P st pl Z w v x->A0 P st pl Z { w with drawn:=n } v x:=by
  intro v x h
  cases v<;>simp only [A0] at h ⊢<;>first
   | exact h
   | exact fun k=>(h k).mono (fun _ h=>h) fun _ _=>rfl
 have hAr:∀ {v:AV} {x:Value},Ar P st pl Z w v x->Ar P st pl Z { w with drawn:=n } v x:=by
  intro v x h;by_cases hv:noFn v=true
  · have e:∀ w,Ar P st pl Z w v x=A0 P st pl Z w v x:=fun w=>by cases v<;>first|rfl|cases hv
    rw [e] at h ⊢;exact hA0 h
  · cases v with
    | fn f caps=>obtain ⟨arr,h1,h2,h3⟩:=h; exact ⟨arr,h1,h2,fun k av y hk hy=>hA0 (h3 k av y hk hy)⟩
    | _=>simp [noFn] at hv
 have hArs:∀ {v:List AV} {x:List Value},Ars P st pl Z w v x->Ars P st pl Z { w with drawn:=n } v x:=fun h=>⟨h.1,fun k av y hk hy=>hAr (h.2 k av y hk hy)⟩;refine ⟨R.tsz,R.df,fun i v hv=>?_,fun m o ho=>?_,R.nd,R.dj,R.lt,R.zlt,R.z0,⟨R.fr.os,R.fr.tape,R.fr.output,R.fr.size,R.fr.blk,R.fr.iob⟩,R.io,R.ioa,R.ut,R.us,R.u0,R.gl.mono (fun _ h=>h) fun _ _=>rfl⟩
 · obtain ⟨x,h1,h2⟩:=R.tmp i v hv;refine ⟨x,h1,?_⟩
   cases v with
   | one v=>exact hAr h2
   | agg cs=>obtain ⟨xs,e,h⟩:=h2; exact ⟨xs,e,hArs h⟩
   | tup vs=>obtain ⟨xs,e,e2,h⟩:=h2; exact ⟨xs,e,e2,fun k a cs y hk hy=>let ⟨ys,h4,h5⟩:=h k a cs y hk hy; ⟨ys,hArs h4,h5⟩⟩
 · have:=R.obj m o ho
   cases o with
   | box row=>obtain ⟨h1,c,ty,h2,h3,h4⟩:=this; exact ⟨h1,c,ty,h2,h3,fun k av y hk hy=>hAr (h4 k av y hk hy)⟩
   | arr t rows p=>exact Ow.mono this (fun _ h=>h) (fun _ _=>rfl) (fun _ _=>rfl)
include hE in
theorem xqp {cx:Cx} {Q:Exit->Act->World->Prop} (hm:E.P.follows .mixedOrders=true) (hd:∀ o∈ops.toList,∀ d,o.dst=some d->d<cx.nt) {st:St} {k:St->Prop}
 (h:vcOps E ops.toList rid ops.toList 0 st fun st' fs=>match edgesOk 0 ops.toList && drawOk ops.toList fs with|true=>k st'|false=>False)
 {a:Act} {w:World} {pl:Pl} {Z:Nat->Prop} (R:Rel E.P cx st a w pl Z) (hQ:∀ st' a' w' pl' Z',k st'->Rel E.P cx st' a' w' pl' Z'->Q .normal a' w'):(Code.region rid ops true).wp E.P Q a w:=by
 obtain ⟨its,st',fs,t,hk,e1,e2⟩:=xbr hE (r:=ops.toList) (i:=0) rfl h
 split at hk
 · rename_i hh;simp only [xzj] at hh;have hF:=t.foots;have hlen:its.length=ops.size:=by have:=congrArg List.length e2; simpa using this
   have hpi:its.Pairwise fun p q=>p.i<q.i:=by
    have:(its.map (·.i)).Pairwise (·<·):=by rw [e2]; exact List.pairwise_lt_range'
    exact List.pairwise_map.1 this
   refine wp_region_any hm (xs5 (f:=st') hd hh.1 (fun a w pl Z R=>hQ _ _ _ pl Z hk R) t (xfx (fun x hx=>(hF x hx).i) (by rw [e1]; exact hh.2)) hpi (fun x hx=>?_) (by simp) (fun j hj=>?_) (fun j o ho hL=>?_) (by omega) (R.drawn _))
   · have:x.i∈its.map (·.i):=xzv.2 ⟨x,hx,rfl⟩;rw [e2] at this;simpa using List.mem_range'_1.1 this
   · have h1:(Array.replicate ops.size false).getD j true=false:=by simp [x0s,hj]
     refine ⟨fun _=>?_,fun _=>h1⟩;have:j∈its.map (·.i):=by rw [e2]; exact List.mem_range'_1.2 ⟨xz1 _,by simpa using hj⟩
     obtain ⟨x,hx,e⟩:=xzv.1 this;exact ⟨x,hx,e⟩
   · have hj:j<ops.size:=by
      rw [x0w] at ho;exact (x0t.1 ho).1
     have h1:(Array.replicate ops.size false).getD j true=false:=by simp [x0s,hj]
     rw [h1] at hL; cases hL
 · exact hk.elim
end
end Go.AM
end
section
namespace Go.AM
open Go
theorem vh {m n:Nat}:∀ {l:List Nat},n∈remN m l↔n∈l/\n≠m
 | []=>by simp [remN]
 | a::r=>by
   simp only [remN]
   cases h:Nat.beq a m with
   | true =>
     have:=xz2 h;subst this;simp only [x1i,vh (l:=r),xzn];constructor
     · rintro ⟨h1,h2⟩; exact ⟨.inr h1,h2⟩
     · rintro ⟨h1|h1,h2⟩
       · exact absurd h1 h2
       · exact ⟨h1,h2⟩
   | false =>
     have hne:a≠m:=fun e=>by rw [e,x2i] at h; cases h
     simp only [x2w,xzn,vh (l:=r)];constructor
     · rintro (rfl|⟨h1,h2⟩)
       · exact ⟨.inl rfl,hne⟩
       · exact ⟨.inr h1,h2⟩
     · rintro ⟨h1|h1,h2⟩
       · exact .inl h1
       · exact .inr ⟨h1,h2⟩
section
variable {P:Program} {cx:Cx} {st:St} {a:Act} {w:World} {pl:Pl} {Z:Nat->Prop} {m t:Nat} {rows:List (List AV)}
theorem vi (R:Rel P cx st a w pl Z) (hm:lk st.s m=some (.arr t rows false)) {st':St} (hs:st'.s=(without [m] st.s).map fun p=>(p.1,p.2.frz m t rows)) {v:AV} {x:Value} (h:A0 P st pl Z w v x) :
 A0 P st' pl (fun b=>Z b\/b∈pl.own m) w (frzC m t rows v) x:=by
 have hO:∀ n o,st'.O n=some o->n≠m/\∃ o0,st.O n=some o0/\o=o0.frz m t rows:=by
  intro n o ho;unfold St.O at ho ⊢;rw [hs,xaz,xc0] at ho
  split at ho
  · cases ho
  · rename_i hn;obtain ⟨o0,h1,h2⟩:=xz0.1 ho;exact ⟨by simpa using hn,o0,h1,h2.symm⟩
 have hhas:st.has m:=by unfold St.has St.O; rw [hm]; rfl
 have hsup:∀ ns b,Sup pl Z ns b->Sup pl (fun b=>Z b\/b∈pl.own m) (remN m ns) b:=by
  rintro ns b (h|⟨n,hn,h⟩)
  · exact .inl (.inl h)
  · by_cases e:n=m
    · subst e; exact .inl (.inr h)
    · exact .inr ⟨n,vh.2 ⟨hn,e⟩,h⟩
 have hall:∀ ns:List Nat,(∀ n∈remN m ns,st'.has n)->∀ n∈ns,st.has n:=by
  intro ns hn n hmem;by_cases e:n=m
  · subst e; exact hhas
  · obtain ⟨o,ho⟩:=x0n.1 (hn n (vh.2 ⟨hmem,e⟩));obtain ⟨_,o0,h1,_⟩:=hO n o ho;unfold St.has; rw [h1]; rfl
 cases v with
 | undef=>trivial
 | na=>trivial
 | prim p=>exact h
 | emp t=>exact h
 | sl t r=>exact h
 | fn f c=>exact h
 | fr ns t' r =>
   have h:(∀ n∈ns,st.has n)->Rd P w (Sup pl Z ns) (.sl t' r) x:=h;exact fun hn=>(h (hall ns hn)).mono (hsup ns) fun _ _=>rfl
 | fp ns row o =>
   have h:(∀ n∈ns,st.has n)->Rd P w (Sup pl Z ns) (.fp [] row o) x:=h;exact fun hn=>(h (hall ns hn)).mono (hsup ns) fun _ _=>rfl
 | ref n =>
   simp only [frzC]
   cases hb:Nat.beq n m with
   | true =>
     have:=xz2 hb;subst this;have hx:=h t rows false hm;subst hx;intro _;have:=R.obj n _ hm;exact Ow.rd this (fun b hb=>.inl (.inr hb)) (fun b hb=>.inl (.inl hb))
   | false =>
     intro t' rows' p' ho;obtain ⟨_,o0,h1,h2⟩:=hO n _ ho
     cases o0 with
     | box row=>simp [Ob.frz] at h2
     | arr t0 r0 p0=>exact h t0 r0 p0 h1
 | ptr n i off =>
   simp only [frzC]
   cases hb:Nat.beq n m with
   | true=>trivial
   | false =>
     intro o ho;obtain ⟨_,o0,h1,h2⟩:=hO n _ ho;rw [h o0 h1,h2];cases o0<;>rfl
theorem xii (R:Rel P cx st a w pl Z) (hm:lk st.s m=some (.arr t rows false)) {st':St} (hs:st'.s=(without [m] st.s).map fun p=>(p.1,p.2.frz m t rows)) {v:AV} {x:Value} (h:Ar P st pl Z w v x) :
 Ar P st' pl (fun b=>Z b\/b∈pl.own m) w (frzV m t rows v) x:=by
 cases v with
 | fn f caps =>
   obtain ⟨arr,h1,h2,h3⟩:=h;refine ⟨arr,h1,by simp [h2],fun k av y hk hy=>?_⟩;rw [xzr] at hk;obtain ⟨av0,h4,rfl⟩:=xz0.1 hk;exact vi R hm hs (h3 k av0 y h4 hy)
 | undef=>trivial
 | na=>trivial
 | prim p=>exact vi R hm hs (v:=.prim p) h
 | emp t=>exact vi R hm hs (v:=.emp t) h
 | sl t r=>exact h.elim
 | fr ns t' r=>exact vi R hm hs (v:=.fr ns t' r) h
 | fp ns r o=>exact vi R hm hs (v:=.fp ns r o) h
 | ref n =>
   have:=vi R hm hs (v:=.ref n) h;simp only [frzV,frzC] at this ⊢;cases hb:Nat.beq n m<;>rw [hb] at this<;>exact this
 | ptr n i off =>
   have:=vi R hm hs (v:=.ptr n i off) h;simp only [frzV,frzC] at this ⊢;cases hb:Nat.beq n m<;>rw [hb] at this<;>exact this
theorem xk3 (R:Rel P cx st a w pl Z) (hm:lk st.s m=some (.arr t rows false)) {st':St} (hs:st'.s=(without [m] st.s).map fun p=>(p.1,p.2.frz m t rows)) {cs:List AV} {xs:List Value} (h:Ars P st pl Z w cs xs) :
 Ars P st' pl (fun b=>Z b\/b∈pl.own m) w (cs.map (frzV m t rows)) xs:=by
 refine ⟨by rw [h.1,xzi],fun k av y hk hy=>?_⟩;rw [xzr] at hk;obtain ⟨av0,h4,rfl⟩:=xz0.1 hk;exact xii R hm hs (h.2 k av0 y h4 hy)
theorem xk4 {u:List Nat} {v:AV} (h:v.inU u=true) (hf:noFn v=true):(frzC m t rows v).inU u=true:=by
 cases v with
 | ref n=>simp only [frzC]; cases Nat.beq n m<;>first|exact h|rfl
 | ptr n i off=>simp only [frzC]; cases Nat.beq n m<;>first|exact h|rfl
 | fr ns t' r=>simp only [frzC,AV.inU,xzl] at h ⊢; exact fun n hn=>h n (vh.1 hn).1
 | fp ns r o=>simp only [frzC,AV.inU,xzl] at h ⊢; exact fun n hn=>h n (vh.1 hn).1
 | fn f c=>cases hf
 | _=>rfl
theorem xs8 {v:AV} (hf:noFn v=true):noFn (frzC m t rows v)=true:=by
 cases v with
 | ref n=>simp only [frzC]; cases Nat.beq n m<;>rfl
 | ptr n i off=>simp only [frzC]; cases Nat.beq n m<;>rfl
 | fn f c=>cases hf
 | _=>rfl
theorem xyd {u:List Nat} {f:Nat} {caps:List AV}:(AV.fn f caps).inU u=true↔∀ a∈caps,a.inU u=true/\noFn a=true:=by
 refine ⟨xo5,fun h=>?_⟩;simp only [AV.inU,xzl];intro a ha;obtain ⟨h1,h2⟩:=h a ha
 cases a<;>first|(cases h2; done)|exact h1|rfl
theorem xc4 {u:List Nat} {v:AV} (h:v.inU u=true):(frzV m t rows v).inU u=true:=by
 cases v with
 | fn f c =>
   simp only [frzV];rw [xyd] at h ⊢;intro a ha;obtain ⟨b,hb,rfl⟩:=xzv.1 ha;exact ⟨xk4 (h b hb).1 (h b hb).2,xs8 (h b hb).2⟩
 | _=>exact xk4 (m:=m) (t:=t) (rows:=rows) h rfl
theorem xxa {v:AV}:(frzV m t rows v).isNa=v.isNa:=by
 cases v with
 | ref n=>simp only [frzV,frzC]; cases Nat.beq n m<;>rfl
 | ptr n i off=>simp only [frzV,frzC]; cases Nat.beq n m<;>rfl
 | _=>rfl
theorem Rel.frz (R:Rel P cx st a w pl Z) (hm:lk st.s m=some (.arr t rows false)) :
 Rel P cx ⟨st.t.map fun p=>(p.1,p.2.frz m t rows),(without [m] st.s).map fun p=>(p.1,p.2.frz m t rows),st.u⟩ a w pl (fun b=>Z b\/b∈pl.own m):=by
 have hs:(⟨st.t.map fun p=>(p.1,p.2.frz m t rows),(without [m] st.s).map fun p=>(p.1,p.2.frz m t rows),st.u⟩:St).s=(without [m] st.s).map fun p=>(p.1,p.2.frz m t rows):=rfl;have hO:∀ n o,lk ((without [m] st.s).map fun p=>(p.1,p.2.frz m t rows)) n=some o->n≠m/\∃ o0,lk st.s n=some o0/\o=o0.frz m t rows:=by
  intro n o ho;rw [xaz,xc0] at ho
  split at ho
  · cases ho
  · rename_i hn;obtain ⟨o0,h1,h2⟩:=xz0.1 ho;exact ⟨by simpa using hn,o0,h1,h2.symm⟩
 have hhas:st.has m:=by unfold St.has St.O; rw [hm]; rfl
 have hh:∀ n,(⟨st.t.map fun p=>(p.1,p.2.frz m t rows),(without [m] st.s).map fun p=>(p.1,p.2.frz m t rows),st.u⟩:St).has n->n≠m/\st.has n:=by
  intro n hn;obtain ⟨o,ho⟩:=x0n.1 hn;obtain ⟨h1,o0,h2,_⟩:=hO n o ho;exact ⟨h1,by unfold St.has St.O; rw [h2]; rfl⟩
 have hTr:∀ {v:TV} {x:Value},Tr P st pl Z w v x->Tr P ⟨st.t.map fun p=>(p.1,p.2.frz m t rows),(without [m] st.s).map fun p=>(p.1,p.2.frz m t rows),st.u⟩ pl (fun b=>Z b\/b∈pl.own m) w (v.frz m t rows) x:=by
  intro v x h
  cases v with
  | one v=>exact xii R hm hs h
  | agg cs=>obtain ⟨xs,h1,h2⟩:=h; exact ⟨xs,h1,xk3 R hm hs h2⟩
  | tup vs =>
    obtain ⟨xs,h1,h2,h3⟩:=h;refine ⟨xs,h1,by simp [h2],fun k ag cs y hk hy=>?_⟩;rw [xzr] at hk;obtain ⟨p,h4,h5⟩:=xz0.1 hk;simp only [x25] at h5;obtain ⟨rfl,rfl⟩:=h5;obtain ⟨ys,h6,h7⟩:=h3 k p.1 p.2 y h4 hy;exact ⟨ys,xk3 R hm hs h6,h7⟩
 have hTU:∀ {v:TV},v.inU st.u=true->(v.frz m t rows).inU st.u=true:=by
  intro v h
  cases v with
  | one v=>exact xc4 h
  | agg cs=>simp only [TV.frz,TV.inU,xzl,xzv] at h ⊢; rintro a ⟨b,hb,rfl⟩; exact xc4 (h b hb)
  | tup vs =>
    simp only [TV.frz,TV.inU,xzl,xzv] at h ⊢;rintro a ⟨p,hp,rfl⟩ b hb;obtain ⟨c,hc,rfl⟩:=xzv.1 hb;exact xc4 (h p hp c hc)
 refine ⟨R.tsz,R.df,fun i v hv=>?_,fun n o ho=>?_,fun n hn=>R.nd n (hh n hn).2,fun n n' hn hn'=>R.dj n n' (hh n hn).2 (hh n' hn').2,fun n hn b hb=>?_,fun b hb=>?_,fun b hb=>.inl (R.z0 b hb),R.fr,fun i hi n row hr had=>?_,fun i hi n t' rows' p' hr=>?_,fun i v hv=>?_,fun n o ho=>?_,fun i hi=>⟨(R.u0 i hi).1,fun hn=>(R.u0 i hi).2 (hh 63 hn).2⟩,R.gl.mono (fun b h=>.inl h) fun _ _=>rfl⟩
 · rw [xaz] at hv;obtain ⟨v0,h1,rfl⟩:=xz0.1 hv;obtain ⟨x,h2,h3⟩:=R.tmp i v0 h1;exact ⟨x,h2,hTr h3⟩
 · obtain ⟨hne,o0,h1,rfl⟩:=hO n o ho;have h2:=R.obj n o0 h1
   cases o0 with
   | box row =>
     obtain ⟨g1,c,ty,g2,g3,g4⟩:=h2;refine ⟨g1,c,ty,g2,by simpa using g3,fun k av y hk hy=>?_⟩;rw [xzr] at hk;obtain ⟨av0,h4,rfl⟩:=xz0.1 hk;exact xii R hm hs (g4 k av0 y h4 hy)
   | arr t0 r0 p0=>exact Ow.mono h2 (fun b hb=>.inl hb) (fun _ _=>rfl) (fun _ _=>rfl)
 · obtain ⟨hne,hn⟩:=hh n hn;obtain ⟨h1,h2,h3⟩:=R.lt n hn b hb;exact ⟨h1,fun hz=>hz.elim h2 (R.dj n m hn hhas hne b hb),h3⟩
 · rcases hb with hb|hb
   · exact R.zlt b hb
   · obtain ⟨h1,h2,h3⟩:=R.lt m hhas b hb;have hne:∀ i,cx.io=some i->b≠i.b:=fun i hi e=>R.ioa i hi m t rows false hm (e▸hb);refine ⟨h1,?_,hne⟩;rcases h3 with h|⟨i,hi,e⟩|h
     · exact .inr (.inl h)
     · exact absurd e (hne i hi)
     · exact .inr (.inr h)
 · obtain ⟨_,o0,h1,h2⟩:=hO n _ hr
   cases o0 with
   | arr t0 r0 p0=>simp [Ob.frz] at h2
   | box row0 =>
     simp only [Ob.frz,Ob.box.injEq] at h2;obtain ⟨g1,g2⟩:=R.io i hi n row0 h1 had;refine ⟨g1,?_⟩;rw [h2,<- g2,x2k];exact x06 fun av _=>by simp [xxa]
 · obtain ⟨_,o0,h1,h2⟩:=hO n _ hr
   cases o0 with
   | box row=>simp [Ob.frz] at h2
   | arr t0 r0 p0=>exact R.ioa i hi n t0 r0 p0 h1
 · rw [xaz] at hv;obtain ⟨v0,h1,rfl⟩:=xz0.1 hv;exact hTU (R.ut i v0 h1)
 · obtain ⟨_,o0,h1,rfl⟩:=hO n o ho;obtain ⟨h2,h3⟩:=R.us n o0 h1;refine ⟨h2,?_⟩
   cases o0 with
   | arr=>rfl
   | box row=>simp only [Ob.frz,Ob.inU,xzl,xzv] at h3 ⊢; rintro a ⟨b,hb,rfl⟩; exact xc4 (h3 b hb)
theorem xc5:∀ {ms:List Nat} {st:St} {Z:Nat->Prop} {k:St->Prop},frzs ms st k->Rel P cx st a w pl Z->∃ st' Z',k st'/\Rel P cx st' a w pl Z'
 | [],st,Z,k,h,R=>⟨st,Z,h,R⟩
 | m::r,st,Z,k,h,R=>by
   simp only [frzs] at h
   split at h
   · rename_i t rows hm;obtain ⟨t0,s0,u⟩:=st;simp only [xd2,x5,xid,xb1] at h;exact xc5 h (R.frz hm)
   · exact xc5 h R
   · exact h.elim
theorem xhj {E:Env} {rid:Nat} {st:St} {Z:Nat->Prop} {k:St->Prop} (h:frzK E rid st k) (R:Rel P cx st a w pl Z):∃ st' Z',k st'/\Rel P cx st' a w pl Z':=by
 unfold frzK at h
 split at h
 · exact ⟨st,Z,h,R⟩
 · exact xc5 h R
end
end Go.AM
end
section
namespace Go.AM
open Go
def dstsOk (nt:Nat) (ops:Array Oper):Bool:=ops.toList.all fun o=>match o.dst with
 | some d=>Nat.blt d nt
 | none=>true
def codeOk (nt:Nat):Code->Bool
 | .region _ ops _=>dstsOk nt ops
 | .seq a b=>codeOk nt a && codeOk nt b
 | .cond _ a b=>codeOk nt a && codeOk nt b
 | .block _ c=>codeOk nt c
 | .loop c=>codeOk nt c
 | _=>true
theorem xnt {nt:Nat} {ops:Array Oper} (h:dstsOk nt ops=true):∀ o∈ops.toList,∀ d,o.dst=some d->d<nt:=by
 intro o ho d hd;have:=xzl.1 h o ho;rw [hd] at this;exact x0v this
def QOf (P:Program) (cx:Cx) (Q:Ex->St->Prop):Exit->Act->World->Prop
 | .normal,a,w=>∃ st pl Z,Q .normal st/\Rel P cx st a w pl Z
 | .exit id,a,w=>∃ st pl Z,Q (.exit id) st/\Rel P cx st a w pl Z
 | .ret,a,w=>∃ st pl Z,Q .ret st/\Rel P cx st a w pl Z
 | _,_,_=>False
theorem QOf.mono {P:Program} {cx:Cx} {Q Q':Ex->St->Prop} (h:∀ e st,Q e st->Q' e st):∀ e a w,QOf P cx Q e a w->QOf P cx Q' e a w:=by
 intro e a w hq;cases e<;>simp only [QOf] at hq ⊢
 all_goals (obtain ⟨st,pl,Z,h1,h2⟩:=hq; exact ⟨st,pl,Z,h _ _ h1,h2⟩)
def WeakOk (E:Env):Prop:=∀ (cx:Cx) (st inv:St) (a:Act) (w:World) (pl:Pl) (Z:Nat->Prop),weak st inv->Rel E.P cx st a w pl Z->∃ pl',Rel E.P cx inv a w pl' Z
section
variable {E:Env} (hE:tabB E=true) (hm:E.P.follows .mixedOrders=true) (hW:WeakOk E)
include hE hm hW
theorem jm {cx:Cx}:∀ {c:Code} {st:St} {Q:Ex->St->Prop},codeOk cx.nt c=true->vc E c st Q->∀ {a:Act} {w:World} {pl:Pl} {Z:Nat->Prop},Rel E.P cx st a w pl Z->c.wp E.P (QOf E.P cx Q) a w
 | .skip,st,Q,_,h,a,w,pl,Z,R=>wp_skip ⟨st,pl,Z,h,R⟩
 | .region rid ops dr,st,Q,hc,h,a,w,pl,Z,R=>by
   have hd:=xnt (nt:=cx.nt) (ops:=ops) hc;simp only [vc] at h;obtain ⟨st,Z,h,R⟩:=xhj h R;cases dr
   · refine wp_region ?_;have:=xee (Q:=QOf E.P cx Q) hE hd (r:=ops.toList) (i:=0) rfl h R fun st' a' w' pl' Z' hk R'=>⟨st',pl',Z',hk,R'⟩;rwa [List.range_eq_range',<- x02]
   · exact xqp (Q:=QOf E.P cx Q) hE hm hd h R fun st' a' w' pl' Z' hk R'=>⟨st',pl',Z',hk,R'⟩
 | .seq x y,st,Q,hc,h,a,w,pl,Z,R=>by
   simp only [codeOk,xzj] at hc;simp only [vc] at h;refine wp_seq (wp_mono (jm hc.1 h R) fun e a' w' hq=>?_);cases e<;>simp only [QOf,Exit.then] at hq ⊢
   · obtain ⟨st',pl',Z',h1,h2⟩:=hq; exact jm hc.2 h1 h2
   all_goals exact hq
 | .cond c x y,st,Q,hc,h,a,w,pl,Z,R=>by
   simp only [codeOk,xzj] at hc;simp only [vc] at h;replace h:=xk h;obtain ⟨rt,v,h,hr,he⟩:=h;obtain ⟨h1,_⟩:=he cx st a w pl Z R hr;clear he
   split at h
   · obtain ⟨e1,_⟩:=h1;refine wp_cond e1 ?_
     rename Bool=>b
     cases b
     · exact jm hc.2 h R
     · exact jm hc.1 h R
   · exact h.elim
 | .block id c,st,Q,hc,h,a,w,pl,Z,R=>by
   simp only [vc] at h;obtain ⟨st,Z,h,R⟩:=xhj h R;refine wp_block (wp_mono (jm (c:=c) hc h R) fun e a' w' hq=>?_);cases e<;>simp only [QOf,Exit.inBlock] at hq ⊢
   · exact hq
   · rename_i id';obtain ⟨st',pl',Z',h1,h2⟩:=hq
     cases hb:Nat.beq id' id with
     | true =>
       rw [hb] at h1;rw [if_pos (xz2 hb)];exact ⟨st',pl',Z',h1,h2⟩
     | false =>
       rw [hb] at h1;rw [if_neg fun e=>by rw [e,x2i] at hb; cases hb];exact ⟨st',pl',Z',h1,h2⟩
   all_goals exact hq
 | .loop c,st,Q,hc,h,a,w,pl,Z,R=>by
   simp only [vc] at h;obtain ⟨α,inv,μ,a0,hw,hround⟩:=h;obtain ⟨pl0,R0⟩:=hW cx st (inv a0) a w pl Z hw R;have key:∀ (n:Nat) (x:α),μ x<n->∀ (a:Act) (w:World) (pl:Pl) (Z:Nat->Prop),Rel E.P cx (inv x) a w pl Z->Code.rounds E.P c (QOf E.P cx Q) n a w:=by
    intro n
    induction n with
    | zero=>intro x hx; omega
    | succ n ih =>
      intro x hx a w pl Z R;simp only [Code.rounds];refine wp_mono (jm (c:=c) hc (hround x) R) fun e a' w' hq=>?_;cases e<;>simp only [QOf,Exit.then] at hq ⊢
      · obtain ⟨st',pl',Z',⟨x',h1,h2⟩,R'⟩:=hq;obtain ⟨pl2,R2⟩:=hW cx st' (inv x') a' w' pl' Z' h2 R';exact ih x' (by omega) a' w' pl2 Z' R2
      all_goals exact hq
   exact wp_loop_rounds (μ a0+1) (key _ a0 (Nat.lt_succ_self _) a w pl0 Z R0)
 | .exit id,st,Q,_,h,a,w,pl,Z,R=>wp_exit ⟨st,pl,Z,h,R⟩
 | .ret,st,Q,_,h,a,w,pl,Z,R=>wp_ret ⟨st,pl,Z,h,R⟩
 | .rangeFunc ..,_,_,_,h,_,_,_,_,_=>h.elim
 | .scope _,_,_,_,h,_,_,_,_,_=>h.elim
 | .label _,_,_,_,h,_,_,_,_,_=>h.elim
 | .goto _,_,_,_,h,_,_,_,_,_=>h.elim
 | .refuse _,_,_,_,h,_,_,_,_,_=>h.elim
end
end Go.AM
end
section
namespace Go.AM
open Go
def Pl.re (r:List (Nat × Nat)) (pl:Pl):Pl:=⟨fun n=>pl.hdr (renN r n),fun n=>pl.adr (renN r n),fun n=>pl.own (renN r n)⟩
theorem xeg:∀ {a b:List Nat},eqNs a b=true->a=b
 | [],[],_=>rfl
 | [],_::_,h=>by cases h
 | _::_,[],h=>by cases h
 | a::r,b::r',h=>by
   simp only [eqNs] at h;cases hb:Nat.beq a b<;>rw [hb] at h
   · cases h
   · rw [xz2 hb,xeg h]
theorem xvn {x y:Value} (h:eqV x y):x=y:=by
 unfold eqV at h
 split at h
 · split at h
   · rename_i hk; rw [xkl hk,h]
   · exact h.elim
 · rw [h]
 · exact h
theorem xk5 {a b:AV} {k:Prop} (h:eqA a b k):k/\((a=.undef/\b≠.na)\/a=b):=by
 unfold eqA at h
 split at h
 · exact h.elim
 · rename_i hb; exact ⟨h,.inl ⟨rfl,fun e=>hb e⟩⟩
 · exact ⟨h,.inr rfl⟩
 · obtain ⟨h1,h2⟩:=h; exact ⟨h2,.inr (by rw [xvn h1])⟩
 · obtain ⟨h1,h2⟩:=h; exact ⟨h2,.inr (by rw [xz2 h1])⟩
 · obtain ⟨h1,h2,h3⟩:=h; exact ⟨h3,.inr (by rw [h1,h2])⟩
 · split at h
   · rename_i h1 h2;obtain ⟨h3,h4⟩:=h; exact ⟨h4,.inr (by rw [xeg h1,xz2 h2,h3])⟩
   · exact h.elim
 · split at h
   · rename_i h1; exact ⟨h,.inr (by rw [xz2 h1])⟩
   · exact h.elim
 · split at h
   · rename_i h1; obtain ⟨h2,h3,h4⟩:=h; exact ⟨h4,.inr (by rw [xz2 h1,h2,h3])⟩
   · exact h.elim
 · split at h
   · rename_i h1; obtain ⟨h2,h3,h4⟩:=h; exact ⟨h4,.inr (by rw [xeg h1,h2,h3])⟩
   · exact h.elim
 · obtain ⟨h1,h2,h3⟩:=h; exact ⟨h3,.inr (by rw [h1,h2])⟩
 · exact h.elim
theorem xeh:∀ {as1 bs:List AV} {k:Prop},eqAs as1 bs k->k/\as1.length=bs.length/\∀ (j:Nat) (a b:AV),as1[j]?=some a->bs[j]?=some b->(a=.undef/\b≠.na)\/a=b
 | [],[],k,h=>⟨h,rfl,fun j a b h=>by simp at h⟩
 | [],_::_,k,h=>h.elim
 | _::_,[],k,h=>h.elim
 | a::r,b::r',k,h=>by
   obtain ⟨h1,h2⟩:=xk5 h;obtain ⟨h3,h4,h5⟩:=xeh h1;refine ⟨h3,by simp [h4],fun j x y hx hy=>?_⟩
   cases j with
   | zero=>simp at hx hy; subst hx; subst hy; exact h2
   | succ j=>exact h5 j x y (by simpa using hx) (by simpa using hy)
theorem xei {ren:List (Nat × Nat)} {t:List (Nat × TV)}:∀ {l:List (Nat × TV)} {k:Prop},eqTs ren t l k->k/\∀ p∈l,∃ w,lk t p.1=some w /\
 (
  (∃ a b,p.2=.one a/\w=.one b/\((a.ren ren=.undef/\b≠.na)\/a.ren ren=b)) \/
  ∃ as1 bs,p.2=.agg as1/\w=.agg bs/\as1.length=bs.length/\∀ (j:Nat) (a b:AV),as1[j]?=some a->bs[j]?=some b->(a.ren ren=.undef/\b≠.na)\/a.ren ren=b)
 | [],k,h=>⟨h,by simp⟩
 |
  (i,v)::r,k,h=>by
  simp only [eqTs] at h
  split at h
  · rename_i w hw;unfold eqT at h
    split at h
    · rename_i a b;obtain ⟨h1,h2⟩:=xk5 h;obtain ⟨h3,h4⟩:=xei h1;refine ⟨h3,fun p hp=>?_⟩;rcases xzn.1 hp with rfl|hp
      · exact ⟨_,hw,.inl ⟨a,b,rfl,rfl,h2⟩⟩
      · exact h4 p hp
    · rename_i as1 bs;obtain ⟨h1,h2,h2'⟩:=xeh h;obtain ⟨h3,h4⟩:=xei h1;refine ⟨h3,fun p hp=>?_⟩;rcases xzn.1 hp with rfl|hp
      · exact ⟨_,hw,.inr ⟨as1,bs,rfl,rfl,by simpa using h2,fun j a b ha hb=>h2' j _ b (by rw [xzr,ha]; rfl) hb⟩⟩
      · exact h4 p hp
    · exact h.elim
  · exact h.elim
def OLike (ren:List (Nat × Nat)):Ob->Ob->Prop
 | .box row,.box row'=>row.length=row'.length/\∀ (j:Nat) (a b:AV),row[j]?=some a->row'[j]?=some b->(a.ren ren=.undef/\b≠.na)\/a.ren ren=b
 | .arr t rows p,.arr t' rows' p'=>t'=t/\rows'=rows/\p'=p
 | _,_=>False
theorem xej {ren:List (Nat × Nat)} {s:List (Nat × Ob)}:∀ {l:List (Nat × Ob)} {k:Prop},eqOs ren s l k->k/\∀ p∈l,∃ o,lk s (renN ren p.1)=some o/\OLike ren p.2 o
 | [],k,h=>⟨h,by simp⟩
 |
  (n,.box row)::r,k,h=>by
  simp only [eqOs] at h
  split at h
  · rename_i row' hw;obtain ⟨h1,h2,h2'⟩:=xeh h;obtain ⟨h3,h4⟩:=xej h1;refine ⟨h3,fun p hp=>?_⟩;rcases xzn.1 hp with rfl|hp
    · exact ⟨_,hw,by simpa using h2,fun j a b ha hb=>h2' j _ b (by rw [xzr,ha]; rfl) hb⟩
    · exact h4 p hp
  · exact h.elim
 |
  (n,.arr t rows p)::r,k,h=>by
  simp only [eqOs] at h
  split at h
  · rename_i t' rows' p' hw;have fin:∀ (hp:p'=p) (ht:Nat.beq t t'=true) (h:rows'=rows/\eqOs ren s r k),k/\∀ q∈(n,Ob.arr t rows p)::r,∃ o,lk s (renN ren q.1)=some o/\OLike ren q.2 o:=by
     intro hp ht h;obtain ⟨h3,h4⟩:=xej h.2;refine ⟨h3,fun q hq=>?_⟩;rcases xzn.1 hq with rfl|hq
     · exact ⟨_,hw,(xz2 ht).symm,h.1,hp⟩
     · exact h4 q hq
    split at h
    · rename_i ht; exact fin rfl ht h
    · rename_i ht; exact fin rfl ht h
    · exact h.elim
  · exact h.elim
theorem xfy:∀ {l:List Nat},uniqN l=true->l.Nodup
 | [],_=>x09
 | n::r,h=>by
   simp only [uniqN] at h;cases hm:memN n r<;>rw [hm] at h
   · exact x0x.2 ⟨yr.1 hm,xfy h⟩
   · cases h
theorem xxb {ren:List (Nat × Nat)} {l:List Nat} (h:(l.map (renN ren)).Nodup) {n m:Nat} (hn:n∈l) (hm:m∈l) (hne:n≠m):renN ren n≠renN ren m:=by
 induction l with
 | nil=>cases hn
 | cons a r ih =>
   rw [x0d,x0x] at h;rcases xzn.1 hn with e1|hn'<;>rcases xzn.1 hm with e2|hm'
   · exact absurd (e1.trans e2.symm) hne
   · rw [e1]; exact fun e=>h.1 (by rw [e]; exact xzv.2 ⟨m,hm',rfl⟩)
   · rw [e2]; exact fun e=>h.1 (by rw [<- e]; exact xzv.2 ⟨n,hn',rfl⟩)
   · exact ih h.2 hn' hm'
theorem xxc (E:Env):WeakOk E:=by
 intro cx st inv a w pl Z hw R;unfold weak at hw;simp only [xsf] at hw;generalize hren:pairTs inv.t st.t++pairOs (pairTs inv.t st.t) inv.s st.s=ren at hw;clear hren;unfold weakBy at hw
 split at hw
 · rename_i hok;replace hok:=xse hok;obtain ⟨hw,hT⟩:=xei hw;obtain ⟨_,hO⟩:=xej hw;unfold St.okInv at hok;simp only [xzj,xzl] at hok;obtain ⟨⟨⟨⟨⟨hz,h63⟩,hu1⟩,hu2⟩,hut⟩,hus⟩:=hok;have hnd:=xfy hu2;have ho:∀ n o,lk inv.s n=some o->∃ o',lk st.s (renN ren n)=some o'/\OLike ren o o':=fun n o h=>hO (n,o) (ym h);have hhas:∀ n,inv.has n->st.has (renN ren n):=by
    intro n hn;obtain ⟨o,h⟩:=x0n.1 hn;obtain ⟨o',h',_⟩:=ho n o h;unfold St.has St.O; rw [h']; rfl
   have hsup:∀ ns b,Sup pl Z (ns.map (renN ren)) b->Sup (pl.re ren) Z ns b:=by
    rintro ns b (h|⟨m,hm,h⟩)
    · exact .inl h
    · obtain ⟨n,hn,rfl⟩:=xzv.1 hm; exact .inr ⟨n,hn,h⟩
   have hA:∀ {x y:AV} {v:Value},okF x=true->((x.ren ren=.undef/\y≠.na)\/x.ren ren=y)->Ar E.P st pl Z w y v->Ar E.P inv (pl.re ren) Z w x v:=by
    intro x y v hf hxy h;rcases hxy with ⟨e,_⟩|rfl
    · cases x<;>first|trivial|(simp only [AV.ren] at e; cases e)
    · cases x with
      | undef=>trivial
      | na=>trivial
      | prim p=>exact h
      | emp t=>exact h
      | sl t r=>exact h.elim
      | fr ns t rows =>
        have h:(∀ n∈ns.map (renN ren),st.has n)->Rd E.P w (Sup pl Z (ns.map (renN ren))) (.sl t rows) v:=h;exact fun hn=>(h fun m hm=>by obtain ⟨n,hn',rfl⟩:=xzv.1 hm; exact hhas n (hn n hn')).mono (hsup ns) fun _ _=>rfl
      | fp ns row off =>
        have h:(∀ n∈ns.map (renN ren),st.has n)->Rd E.P w (Sup pl Z (ns.map (renN ren))) (.fp [] row off) v:=h;exact fun hn=>(h fun m hm=>by obtain ⟨n,hn',rfl⟩:=xzv.1 hm; exact hhas n (hn n hn')).mono (hsup ns) fun _ _=>rfl
      | ref n =>
        intro t rows p hl;obtain ⟨o',h1,h2⟩:=ho n _ hl
        cases o' with
        | arr t' rows' p'=>exact h t' rows' p' h1
        | box row=>exact h2.elim
      | ptr n i off =>
        intro o hl;obtain ⟨o',h1,h2⟩:=ho n _ hl;have:=h o' h1;rw [this]
        cases o<;>cases o'<;>first|exact h2.elim|skip
        · rfl
        · obtain ⟨rfl,rfl,rfl⟩:=h2; rfl
      | fn f c =>
        have h:Ar E.P st pl Z w (.fn f c) v:=h;obtain ⟨arr,h1,h2,h3⟩:=h;refine ⟨arr,h1,h2,fun k av y hk hy=>?_⟩;have h4:=h3 k av y hk hy;have h5:=xzl.1 hf av (xzy hk);unfold capNl at h5
        split at h5
        · exact h4
        · trivial
        · trivial
        · have h4:(∀ n∈([]:List Nat),st.has n)->Rd E.P w (Sup pl Z []) _ y:=h4;exact fun _=>(h4 (by simp)).mono (hsup []) fun _ _=>rfl
        · have h4:(∀ n∈([]:List Nat),st.has n)->Rd E.P w (Sup pl Z []) _ y:=h4;exact fun _=>(h4 (by simp)).mono (hsup []) fun _ _=>rfl
        · cases h5
   refine ⟨pl.re ren,R.tsz,R.df,fun i v hv=>?_,fun n o hl=>?_,fun n hn=>R.nd _ (hhas n hn),fun n m hn hm hne=>?_,fun n hn=>R.lt _ (hhas n hn),R.zlt,R.z0,R.fr,fun i hi n row hl had=>?_,fun i hi n t rows p hl=>?_,fun i v hv=>?_,fun n o hl=>?_,fun i hi=>⟨hz,fun hn=>?_⟩,R.gl⟩
   · have hok:=hut (i,v) (ym hv);obtain ⟨w',h1,h2⟩:=hT (i,v) (ym hv);obtain ⟨x,h3,h4⟩:=R.tmp i w' h1;refine ⟨x,h3,?_⟩;rcases h2 with ⟨b,c,e1,rfl,h5⟩|⟨bs,cs,e1,rfl,h5,h6⟩
     · simp only at e1; subst e1;simp only [xzj] at hok;exact hA hok.2 h5 h4
     · simp only at e1; subst e1;simp only [xzj,xzl] at hok;obtain ⟨xs,rfl,h7,h8⟩:=h4;refine ⟨xs,rfl,by rw [h7,h5],fun k av y hk hy=>?_⟩;have hkc:k<cs.length:=by rw [<- h7]; exact (xzm.1 hy).1
       exact hA (hok.2 av (xzy hk)) (h6 k av _ hk (xzh hkc)) (h8 k _ y (xzh hkc) hy)
   · have hok:=hus (n,o) (ym hl);obtain ⟨o',h1,h2⟩:=ho n o hl;have h3:=R.obj _ o' h1
     cases o<;>cases o'<;>first|exact h2.elim|skip
     · rename_i row row';simp only [xzj,xzl] at hok;obtain ⟨g1,c,ty,g2,g3,g4⟩:=h3;refine ⟨g1,c,ty,g2,by rw [h2.1]; exact g3,fun k av y hk hy=>?_⟩;have hkc:k<row'.length:=by rw [<- h2.1]; exact (xzm.1 hk).1
       exact hA (hok.2 av (xzy hk)) (h2.2 k av _ hk (xzh hkc)) (g4 k _ y (xzh hkc) hy)
     · obtain ⟨rfl,rfl,rfl⟩:=h2; exact h3
   · refine R.dj _ _ (hhas n hn) (hhas m hm) (xxb hnd (x8.1 ?_) (x8.1 ?_) hne)
     · exact hn
     · exact hm
   · obtain ⟨o',h1,h2⟩:=ho n _ hl
     cases o' with
     | arr=>exact h2.elim
     | box row' =>
       obtain ⟨g1,g2⟩:=R.io i hi _ row' h1 had;refine ⟨g1,?_⟩;rw [<- g2];apply x2h;intro k;rw [xzr,xzr];by_cases hk:k<row.length
       · have hk':k<row'.length:=by rw [<- h2.1]; exact hk
         rw [xzh hk,xzh hk'];simp only [x0y,x0g];have:=h2.2 k _ _ (xzh hk) (xzh hk');have hrn:∀ z:AV,(z.ren ren).isNa=z.isNa:=fun z=>by cases z<;>rfl
         rcases this with ⟨e,e'⟩|e
         · rw [<- hrn row[k],e];generalize row'[k]=z at e'
           cases z<;>first|rfl|exact absurd rfl e'
         · rw [<- e,hrn]
       · rw [x1z (by omega),x1z (by rw [<- h2.1]; omega)]
   · obtain ⟨o',h1,h2⟩:=ho n _ hl
     cases o' with
     | box=>exact h2.elim
     | arr t' rows' p'=>exact R.ioa i hi _ t' rows' p' h1
   · have hok:=hut (i,v) (ym hv);simp only [xzj] at hok;exact hok.1
   · have hok:=hus (n,o) (ym hl);simp only [xzj] at hok;exact hok.1
   · have h1:=hhas 63 hn;rw [xz2 h63] at h1;show pl.adr (renN ren 63)=_;rw [xz2 h63];exact (R.u0 i hi).2 h1
 · exact hw.elim
end Go.AM
end
section
namespace Go.AM
open Go
def enumF:Nat->List (Mode × TV)->List (Nat × Mode × TV)
 | _,[]=>[]
 | j,(m,v)::r=>(j,m,v)::enumF (j+1) r
section
variable {P:Program} {w:World} {Z:Nat->Prop}
def Arrs (P:Program) (w:World) (Z:Nat->Prop) (ps:List Plc) (f:List Nat):Prop :=
 (∀ p∈ps,∃ t rows q,p.o=.arr t rows q/\Ow P w Z (.sl t rows) p.h p.f)/\(ps.flatMap (·.f)).Sublist f
theorem Arrs.append {ps qs:List Plc} {f g:List Nat} (h:Arrs P w Z ps f) (h':Arrs P w Z qs g):Arrs P w Z (ps++qs) (f++g) :=
 ⟨fun p hp=>(xzs.1 hp).elim (h.1 p) (h'.1 p),by rw [x1b]; exact h.2.append h'.2⟩
theorem Arrs.nil {f:List Nat}:Arrs P w Z [] f:=⟨by simp,by simp⟩
theorem xqq {t:Nat} {rows:List (List AV)} {x:Value} {st:St} {pl:Pl} (h:Rd P w Z (.sl t rows) x):Ar P st pl Z w (.fr [] t rows) x :=
 fun _=>h.mono (fun b hb=>.inl hb) fun _ _=>rfl
theorem xy4 {ns:List Nat} {row:List AV} {off:Nat} {x:Value} {st:St} {pl:Pl} (h:Rd P w Z (.fp ns row off) x):Ar P st pl Z w (.fp [] row off) x:=by
 intro _
 cases h with
 | fp hb hn hc hr=>exact (Rd.fp (ns:=[]) hb hn hc hr).mono (fun b hb=>.inl hb) fun _ _=>rfl
theorem xye {av:AV} {x:Value} {st:St} {pl:Pl} (h:Rd P w Z av x):A0 P st pl Z w (capF av) x:=by
 cases h with
 | prim h=>exact ⟨rfl,h⟩
 | fp hb hn hc hr=>exact fun _=>(Rd.fp (ns:=[]) hb hn hc hr).mono (fun b hb=>.inl hb) fun _ _=>rfl
 | sl hm hl hcap hw hn hb hc hr=>exact fun _=>(Rd.sl hm hl hcap hw hn hb hc hr).mono (fun b hb=>.inl hb) fun _ _=>rfl
 | _=>trivial
theorem xk6 {n:Nat} {pin:Bool} {av:AV} {x:Value} (h:Rd P w Z av x):(par1 n pin false av).2=[]/\(∀ u,(par1 n pin false av).1.inU u=true)/\∀ st pl,Ar P st pl Z w (par1 n pin false av).1 x:=by
 cases h with
 | prim h=>exact ⟨rfl,fun _=>rfl,fun _ _=>⟨rfl,h⟩⟩
 | emp=>exact ⟨rfl,fun _=>rfl,fun _ _=>trivial⟩
 | sl hm hl hcap hw hn hb hc hr=>exact ⟨rfl,fun _=>rfl,fun _ _=>xqq (.sl hm hl hcap hw hn hb hc hr)⟩
 | fr h=>exact ⟨rfl,fun _=>rfl,fun _ _=>xqq h⟩
 | fp hb hn hc hr=>exact ⟨rfl,fun _=>rfl,fun _ _=>xy4 (.fp (ns:=[]) hb hn hc hr)⟩
 | @fn f caps arr hn hr =>
   refine ⟨rfl,fun u=>?_,fun st pl=>⟨arr,rfl,by simp [hn],fun k av y hk hy=>?_⟩⟩
   · simp only [par1,x2w,AV.inU,xzl,xzv];rintro a ⟨b,_,rfl⟩;cases b<;>rfl
   · rw [xzr] at hk;obtain ⟨av',h1,rfl⟩:=xz0.1 hk;exact xye (hr k av' y h1 hy)
theorem xs9 {n:Nat} {pin:Bool} {av:AV} {x:Value} {f:List Nat} (h:Ow P w Z av x f):∃ ps:List Plc,(par1 n pin true av).2=ps.map (fun p=>(p.n,p.o))/\Arrs P w Z ps f /\
 (∀ u,(∀ p∈ps,memN (p.n / 64) u=true)->(par1 n pin true av).1.inU u=true)/\(∀ st pl,Held st pl ps->Ar P st pl Z w (par1 n pin true av).1 x)/\(par1 n pin true av).1.isNa=false:=by
 cases h with
 | prim h=>exact ⟨[],rfl,.nil,fun _ _=>rfl,fun _ _ _=>⟨rfl,h⟩,rfl⟩
 | fr0 h=>exact ⟨[],rfl,.nil,fun _ _=>rfl,fun _ _ _=>xqq h,rfl⟩
 | fp=>exact ⟨[],rfl,.nil,fun _ _=>rfl,fun _ _ _=>trivial,rfl⟩
 | @sl t rows v cells fs hm hw ho hf hr =>
   refine ⟨[⟨n,.arr t rows pin,x,(0,0),x.ownBlock.toList++fs.flatten⟩],rfl,⟨fun p hp=>?_,by simp⟩,fun u hu=>hu _ (xzq.2 rfl),fun st pl hh=>?_,rfl⟩
   · rw [xzq.1 hp]; exact ⟨t,rows,pin,rfl,.sl hm hw ho hf hr⟩
   · intro t' rows' p' ho';exact (hh _ (xzq.2 rfl)).2.1.symm
theorem xij {pin:Bool}:∀ {n:Nat} {cs:List AV} {xs:List Value},Rds P w Z cs xs->(pars pin false n cs).2=[]/\(∀ u,(pars pin false n cs).1.all (AV.inU u)=true)/\∀ st pl,Ars P st pl Z w (pars pin false n cs).1 xs
 | n,[],xs,h=>⟨rfl,fun _=>rfl,fun st pl=>⟨h.1,fun k av y hk=>by simp [pars] at hk⟩⟩
 | n,c::r,xs,h=>by
   match xs,h with
   | [],h=>exact absurd h.1 (by simp)
   | x::xs,h =>
     obtain ⟨h1,h2,h3⟩:=xk6 (n:=n) (pin:=pin) (h.2 0 c x rfl rfl);obtain ⟨g1,g2,g3⟩:=xij (pin:=pin) (n:=n+1) (cs:=r) (xs:=xs) ⟨by simpa using h.1,fun k av y hk hy=>h.2 (k+1) av y (by simpa using hk) (by simpa using hy)⟩;refine ⟨by simp [pars,h1,g1],fun u=>by simp [pars,h2]; exact fun a ha=>xzl.1 (g2 u) a ha,fun st pl=>⟨by simp [pars,(g3 st pl).1],fun k av y hk hy=>?_⟩⟩
     cases k with
     | zero=>simp [pars] at hk hy; subst hk; subst hy; exact h3 st pl
     | succ k=>exact (g3 st pl).2 k av y (by simpa [pars] using hk) (by simpa using hy)
theorem xxd {n:Nat} {pin:Bool} {av:AV} {x:Value} {f:List Nat} (h:(av=.na/\f=[])\/Ow P w Z av x f):∃ ps:List Plc,(par1 n pin true av).2=ps.map (fun p=>(p.n,p.o))/\Arrs P w Z ps f /\
 (∀ u,(∀ p∈ps,memN (p.n / 64) u=true)->(par1 n pin true av).1.inU u=true)/\(∀ st pl,Held st pl ps->Ar P st pl Z w (par1 n pin true av).1 x)/\(par1 n pin true av).1.isNa=av.isNa:=by
 rcases h with ⟨rfl,rfl⟩|h
 · exact ⟨[],rfl,.nil,fun _ _=>rfl,fun _ _ _=>trivial,rfl⟩
 · obtain ⟨ps,h1,h2,h3,h4,h5⟩:=xs9 (n:=n) (pin:=pin) h;refine ⟨ps,h1,h2,h3,h4,?_⟩;rw [h5];cases h<;>rfl
theorem xik {pin:Bool}:∀ {n:Nat} {cs:List AV} {xs:List Value} {fs:List (List Nat)},fs.length=cs.length->xs.length=cs.length->(∀ (k:Nat) (av:AV) (x:Value) (g:List Nat),cs[k]?=some av->xs[k]?=some x->fs[k]?=some g->(av=.na/\g=[])\/Ow P w Z av x g) ->
 ∃ ps:List Plc,(pars pin true n cs).2=ps.map (fun p=>(p.n,p.o))/\Arrs P w Z ps fs.flatten /\
 (∀ u,(∀ p∈ps,memN (p.n / 64) u=true)->(pars pin true n cs).1.all (AV.inU u)=true)/\(∀ st pl,Held st pl ps->Ars P st pl Z w (pars pin true n cs).1 xs)/\(pars pin true n cs).1.map (fun a=>!a.isNa)=cs.map (fun a=>!a.isNa)
 | n,[],xs,fs,h1,h2,h=>⟨[],rfl,.nil,fun _ _=>rfl,fun st pl _=>⟨h2,fun k av y hk=>by simp [pars] at hk⟩,by simp [pars]⟩
 | n,c::r,[],fs,h1,h2,h=>by simp at h2
 | n,c::r,_,[],h1,h2,h=>by simp at h1
 | n,c::r,x::xs,f::fs,h1,h2,h=>by
   obtain ⟨ps,a1,a2,a3,a4,a5⟩:=xxd (n:=n) (pin:=pin) (h 0 c x f rfl rfl rfl);obtain ⟨qs,b1,b2,b3,b4,b5⟩:=xik (pin:=pin) (n:=n+1) (cs:=r) (xs:=xs) (fs:=fs) (by simpa using h1) (by simpa using h2) fun k av x g h1 h2 h3=>h (k+1) av x g (by simpa using h1) (by simpa using h2) (by simpa using h3);refine ⟨ps++qs,by simp [pars,a1,b1],by rw [x01]; exact a2.append b2,fun u hu=>?_,fun st pl hh=>?_,?_⟩
   · have h1:=a3 u fun p hp=>hu p (xzt _ hp);have h2:=b3 u fun p hp=>hu p (xzz _ hp);simp only [pars,x13,h1,h2,x2n]
   · obtain ⟨hh1,hh2⟩:=Held.append.1 hh;refine ⟨by simp [pars,(b4 st pl hh2).1],fun k av y hk hy=>?_⟩
     cases k with
     | zero=>simp [pars] at hk hy; subst hk; subst hy; exact a4 st pl hh1
     | succ k=>exact (b4 st pl hh2).2 k av y (by simpa [pars] using hk) (by simpa using hy)
   · simp only [pars,x0d,a5,b5]
def Told (P:Program) (w:World) (Z:Nat->Prop) (j:Nat) (vals:List Value) (ps:List Plc) (ts:List (Nat × TV)):Prop :=
 ∀ i v,(i,v)∈ts->∃ x,j<=i/\vals[i - j]?=some x/\(∀ st pl,Held st pl ps->Tr P st pl Z w v x)/\∀ u,(∀ p∈ps,memN (p.n / 64) u=true)->v.inU u=true
theorem wt {j:Nat} {x:Value} {vals:List Value} {ps qs:List Plc} {v:TV} {ts:List (Nat × TV)} (h1:∀ st pl,Held st pl ps->Tr P st pl Z w v x) (h2:∀ u,(∀ p∈ps,memN (p.n / 64) u=true)->v.inU u=true)
 (h:Told P w Z (j+1) vals qs ts):Told P w Z j (x::vals) (ps++qs) ((j,v)::ts):=by
 intro i v' hv;rcases xzn.1 hv with e|hv
 · simp only [x25] at e;obtain ⟨rfl,rfl⟩:=e;exact ⟨x,x0r _,by simp,fun st pl hh=>h1 st pl (Held.append.1 hh).1,fun u hu=>h2 u fun p hp=>hu p (xzt _ hp)⟩
 · obtain ⟨y,g1,g2,g3,g4⟩:=h i v' hv;refine ⟨y,by omega,?_,fun st pl hh=>g3 st pl (Held.append.1 hh).2,fun u hu=>g4 u fun p hp=>hu p (xzz _ hp)⟩;rw [show i - j=(i - (j+1))+1 by omega]; simpa using g2
def noIo:List (Mode × TV)->Bool
 | []=>true
 | (.io _ _,_)::_=>false
 | _::r=>noIo r
theorem zy {io:Option Io}:∀ {ins:List (Mode × TV)} {j:Nat} {vals:List Value} {fin:List Nat} {k:List (Nat × TV)->List (Nat × Ob)->Prop},(0<j\/noIo ins=true)->initK (enumF j ins) k->InsR P w Z io ins vals fin ->
 noIo ins=true/\∃ (ts:List (Nat × TV)) (ps:List Plc),k ts (ps.map fun p=>(p.n,p.o))/\Arrs P w Z ps fin/\Told P w Z j vals ps ts
 | [],j,vals,fin,k,hj,h,hi=>by
   cases hi;exact ⟨rfl,[],[],h,.nil,fun i v hv=>by cases hv⟩
 |
  (m,v)::r,j,_,_,k,hj,h,.cons (x:=x) (f:=f) (xs:=xs) (g:=g) h1 h2=>by
  have rest:∀ {k':List (Nat × TV)->List (Nat × Ob)->Prop},noIo ((m,v)::r)=noIo r->initK (enumF (j+1) r) k'->noIo r=true/\∃ (ts:List (Nat × TV)) (ps:List Plc),k' ts (ps.map fun p=>(p.n,p.o))/\Arrs P w Z ps g/\Told P w Z (j+1) xs ps ts :=
   fun he hk=>zy (.inl (x2v _)) hk h2
  cases h1 with
  | pone h1 =>
    simp only [enumF,initK] at h;obtain ⟨e1,e2,e3⟩:=xk6 (n:=j*64) (pin:=false) h1;simp only [pars,e1,x0l,kx,x5,List.nil_append] at h;obtain ⟨g0,ts,ps,g1,g2,g3⟩:=rest rfl h;exact ⟨g0,_,ps,g1,(Arrs.nil (f:=[])).append g2,wt (ps:=[]) (fun st pl _=>e3 st pl) (fun u _=>e2 u) g3⟩
  | pagg h1 =>
    simp only [enumF,initK] at h;obtain ⟨e1,e2,e3⟩:=xij (n:=j*64) (pin:=false) h1;simp only [e1,xq,x5,List.nil_append] at h;obtain ⟨g0,ts,ps,g1,g2,g3⟩:=rest rfl h;exact ⟨g0,_,ps,g1,(Arrs.nil (f:=[])).append g2,wt (ps:=[]) (fun st pl _=>⟨_,rfl,e3 st pl⟩) (fun u _=>e2 u) g3⟩
  | oone h1 =>
    simp only [enumF,initK] at h;obtain ⟨qs,e1,e2,e3,e4,_⟩:=xs9 (n:=j*64) (pin:=false) h1;simp only [pars,e1,x0l,kx,x5] at h;obtain ⟨g0,ts,ps,g1,g2,g3⟩:=rest rfl h;exact ⟨g0,(j,.one (par1 (j*64) false true _).1)::ts,qs++ps,by simpa using g1,e2.append g2,wt (fun st pl hh=>e4 st pl hh) e3 g3⟩
  | oagg h1 =>
    obtain ⟨fs,rfl,k1,k2,k3⟩:=h1;simp only [enumF,initK] at h;obtain ⟨qs,e1,e2,e3,e4,_⟩:=xik (n:=j*64) (pin:=false) k1 k2 fun k av x g h1 h2 h3=>.inr (k3 k av x g h1 h2 h3);simp only [e1,xq,x5] at h;obtain ⟨g0,ts,ps,g1,g2,g3⟩:=rest rfl h;exact ⟨g0,(j,.agg (pars false true (j*64) _).1)::ts,qs++ps,by simpa using g1,e2.append g2,wt (fun st pl hh=>⟨_,rfl,e4 st pl hh⟩) e3 g3⟩
  | mone h1=>exact h.elim
  | magg h1=>exact h.elim
  | io he h1 =>
    rcases hj with hj|hj
    · simp only [enumF,initK] at h
      cases j with
      | zero=>omega
      | succ j=>exact h.elim
    · simp [noIo] at hj
end
end Go.AM
end
section
namespace Go.AM
open Go
theorem xqr {α:Type} {l:List α} {g:α->List Nat} (h:(l.flatMap g).Nodup):(∀ a∈l,(g a).Nodup)/\l.Pairwise fun a b=>∀ x∈g a,x ∉ g b:=by
 rw [List.flatMap_def] at h;obtain ⟨h1,h2⟩:=qr h;exact ⟨fun a ha=>h1 _ (xzv.2 ⟨a,ha,rfl⟩),List.pairwise_map.1 h2⟩
theorem xxe {l:List Plc} (hu:uniqN (l.map (·.n))=true) (h:l.Pairwise fun a b=>∀ x∈a.f,x ∉ b.f):∀ a∈l,∀ b∈l,a.n≠b.n->∀ x∈a.f,x ∉ b.f:=by
 intro a ha b hb hne x hx hx';rw [x15] at h;obtain ⟨i,hi,rfl⟩:=x0h.1 ha;obtain ⟨j,hj,rfl⟩:=x0h.1 hb;rcases Nat.lt_trichotomy i j with h1|h1|h1
 · exact h i j hi hj h1 x hx hx'
 · subst h1; exact hne rfl
 · exact h j i hj hi h1 x hx' hx
section
variable {P:Program} {w:World} {Z:Nat->Prop}
theorem xk7 {io:Option Io} {ins:List (Mode × TV)} {vals:List Value} {fin:List Nat} (h:InsR P w Z io ins vals fin):vals.length=ins.length:=by
 induction h with
 | nil=>rfl
 | cons _ _ ih=>simp [ih]
def pl0:Pl:=⟨fun _=>undef,fun _=>(0,0),fun _=>[]⟩
theorem xta {nt:Nat} {io:Option Io} {vals:List Value} {fin us:List Nat} {ts:List (Nat × TV)} {ps:List Plc} (hnt:vals.length<=nt)
 (hu:uniqN (ps.map (·.n))=true) (hus:∀ p∈ps,memN (p.n / 64) us=true) (hts:Told P w Z 0 vals ps ts)
 (harr:∀ p∈ps,∀ t rows q,p.o=.arr t rows q->Ow P w Z (.sl t rows) p.h p.f/\∀ b∈p.f,b∈fin)
 (hbox:∀ p∈ps,∀ row,p.o=.box row->∃ i,io=some i/\p.f=[i.b]/\p.ad=(i.b,i.o)/\row.map (fun a=>!a.isNa)=i.m/\row.all (AV.inU us)=true /\
   ∃ c ty,w.heap[i.b]?=some (.cells c ty (0,0))/\i.o+row.length<=c.size/\∀ st pl,Held st pl ps->∀ k av y,row[k]?=some av->c[i.o+k]?=some y->Ar P st pl Z w av y)
 (h63:∀ i,io=some i->memN 0 us=true/\∀ p∈ps,p.n=63->p.ad=(i.b,i.o)) (hnd:(ps.flatMap (·.f)).Nodup)
 (hfin:∀ b∈fin,b<w.heap.size/\¬ Z b/\∀ i,io=some i->b≠i.b) (hZ:∀ b,Z b->b<w.heap.size/\∀ i,io=some i->b≠i.b)
 (hio:∀ i,io=some i->∃ c ty,w.heap[i.b]?=some (.cells c ty (0,0))) (hg:GOk P w Z) :
 Rel P ⟨w,Z,fin,io,nt⟩ ⟨ts,ps.map fun p=>(p.n,p.o),us⟩ { tmps:=vals.toArray++Array.replicate (nt - vals.length) undef,defers:=[] } w (over pl0 ps) Z:=by
 have held:Held ⟨ts,ps.map fun p=>(p.n,p.o),us⟩ (over pl0 ps) ps:=by
  intro p hp;refine ⟨?_,xx hu hp⟩;have hm:p.n∈names (ps.map fun p=>(p.n,p.o)):=by rw [yd]; exact xzv.2 ⟨p,hp,rfl⟩
  obtain ⟨o,ho⟩:=x0n.1 (x8.2 hm);obtain ⟨q,hq,e1,e2⟩:=js hu ho;have:q=p:=by
   have h1:=j0 hu hq;have h2:=j0 hu hp;rw [e1] at h1; rw [h1] at h2; exact x0f h2
  subst this;rw [ho,e2]
 have find:∀ n o,lk (ps.map fun p=>(p.n,p.o)) n=some o->∃ p∈ps,p.n=n/\p.o=o:=fun n o h=>js hu h;have hasP:∀ n,(⟨ts,ps.map fun p=>(p.n,p.o),us⟩:St).has n->∃ p∈ps,p.n=n:=by
  intro n hn;obtain ⟨o,ho⟩:=x0n.1 hn;obtain ⟨p,hp,e,_⟩:=find n o ho;exact ⟨p,hp,e⟩
 have ownE:∀ p∈ps,(over pl0 ps).own p.n=p.f:=fun p hp=>(held p hp).2.2.2;have blocks:∀ p∈ps,∀ b∈p.f,b∈fin\/∃ i,io=some i/\b=i.b:=by
  intro p hp b hb
  cases ho:p.o with
  | arr t rows q=>exact .inl ((harr p hp t rows q ho).2 b hb)
  | box row =>
    obtain ⟨i,hi,hf,_⟩:=hbox p hp row ho;rw [hf] at hb;exact .inr ⟨i,hi,xzq.1 hb⟩
 obtain ⟨hn1,hn2⟩:=xqr hnd;constructor
 case tsz=>simp; omega
 case df=>rfl
 case tmp =>
  intro i v hv;obtain ⟨x,h1,h2,h3,_⟩:=hts i v (ym hv);rw [Nat.sub_zero] at h2;refine ⟨x,?_,h3 _ _ held⟩;have hlt:=(xzm.1 h2).1;simp only;rw [Array.getElem?_append_left (by simpa using hlt)];simpa using h2
 case obj =>
  intro n o ho;obtain ⟨p,hp,rfl,rfl⟩:=find n o ho;obtain ⟨e1,e2,e3,e4⟩:=held p hp
  cases hpo:p.o with
  | arr t rows q =>
    show Ow P w Z (.sl t rows) _ _;rw [e2,e4]; exact (harr p hp t rows q hpo).1
  | box row =>
    obtain ⟨i,hi,hf,had,hm,hiu,c,ty,hc,hsz,hr⟩:=hbox p hp row hpo;refine ⟨by rw [e3,e4,hf,had],c,ty,by rw [e3,had]; exact hc,by rw [e3,had]; exact hsz,fun k av y hk hy=>?_⟩;rw [e3,had] at hy;exact hr _ _ held k av y hk hy
 case nd =>
  intro n hn;obtain ⟨p,hp,rfl⟩:=hasP n hn;rw [ownE p hp]; exact hn1 p hp
 case dj =>
  intro n m hn hm hne b hb;obtain ⟨p,hp,rfl⟩:=hasP n hn;obtain ⟨q,hq,rfl⟩:=hasP m hm;rw [ownE p hp] at hb;rw [ownE q hq];exact xxe hu hn2 p hp q hq hne b hb
 case lt =>
  intro n hn b hb;obtain ⟨p,hp,rfl⟩:=hasP n hn;rw [ownE p hp] at hb;rcases blocks p hp b hb with h|⟨i,hi,rfl⟩
  · exact ⟨(hfin b h).1,(hfin b h).2.1,.inl h⟩
  · obtain ⟨c,ty,hc⟩:=hio i hi;exact ⟨(x0t.1 hc).1,fun hz=>(hZ _ hz).2 i hi rfl,.inr (.inl ⟨i,hi,rfl⟩)⟩
 case zlt=>exact fun b hz=>⟨(hZ b hz).1,.inl hz,(hZ b hz).2⟩
 case z0=>exact fun b h=>h
 case fr =>
  refine ⟨rfl,rfl,rfl,x0r _,fun _ _ _ _=>rfl,fun i hi=>?_⟩;obtain ⟨c,ty,hc⟩:=hio i hi;exact ⟨c,c,ty,hc,hc,rfl,fun _ _=>rfl⟩
 case io =>
  intro i hi n row hr had;obtain ⟨p,hp,rfl,hpo⟩:=find n _ hr;obtain ⟨i',hi',hf,had',hm,_⟩:=hbox p hp row hpo;have:i'=i:=by have:=hi'.symm.trans hi; simpa using this
  subst this;rw [(held p hp).2.2.1,had'];exact ⟨rfl,hm⟩
 case ioa =>
  intro i hi n t rows q hr hb;obtain ⟨p,hp,rfl,hpo⟩:=find n _ hr;rw [ownE p hp] at hb;exact (hfin _ ((harr p hp t rows q hpo).2 _ hb)).2.2 i hi rfl
 case ut =>
  intro i v hv;obtain ⟨x,_,_,_,h4⟩:=hts i v (ym hv);exact h4 us hus
 case us =>
  intro n o ho;obtain ⟨p,hp,rfl,rfl⟩:=find n o ho;refine ⟨hus p hp,?_⟩
  cases hpo:p.o with
  | arr t rows q=>rfl
  | box row=>obtain ⟨i,hi,hf,had,hm,hiu,_⟩:=hbox p hp row hpo; exact hiu
 case u0 =>
  intro i hi;obtain ⟨h1,h2⟩:=h63 i hi;refine ⟨h1,fun hn=>?_⟩;obtain ⟨p,hp,e⟩:=hasP 63 hn;rw [<- e,(held p hp).2.2.1];exact h2 p hp e
 case gl=>exact hg
theorem xk8:∀ {ins:List (Mode × TV)},noIo ins=true->∀ lo hi v,(Mode.io lo hi,v) ∉ ins
 | [],_,lo,hi,v=>by simp
 |
  (m,u)::r,h,lo,hi,v=>by
  intro hm
  cases m<;>simp only [noIo] at h<;>rcases xzn.1 hm with e|hm<;>first|(cases e; done)|exact xk8 h lo hi v hm|cases h
theorem xvo {nt:Nat} {io:Option Io} {ins:List (Mode × TV)} {vals:List Value} {fin:List Nat} {k:List (Nat × TV)->List (Nat × Ob)->Prop} (h:initK (enumF 0 ins) k) (hi:InsR P w Z io ins vals fin)
 (hio:io=none\/∃ lo hi v,(Mode.io lo hi,v)∈ins) (hnd:fin.Nodup) (hfin:∀ b∈fin,b<w.heap.size/\¬ Z b/\∀ i,io=some i->b≠i.b) (hZ:∀ b,Z b->b<w.heap.size/\∀ i,io=some i->b≠i.b) (hnt:ins.length<=nt) (hg:GOk P w Z) :
 ∃
  ts os,k ts os/\(uniqN (names os)=true->(os.all fun p=>memN (p.1 / 64) ((enumF 0 ins).map (·.1)))=true ->
  ∃ pl,Rel P ⟨w,Z,fin,io,nt⟩ ⟨ts,os,(enumF 0 ins).map (·.1)⟩ { tmps:=vals.toArray++Array.replicate (nt - vals.length) undef,defers:=[] } w pl Z) /\
  (∀ i,io=some i->∃ lo hi row r,ins=(.io lo hi,.agg row)::r/\noIo r=true)/\(io=none->noIo ins=true):=by
 have hlen:vals.length<=nt:=by rw [xk7 hi]; exact hnt
 have plain:noIo ins=true->∃ ts os,k ts os/\(uniqN (names os)=true->(os.all fun p=>memN (p.1 / 64) ((enumF 0 ins).map (·.1)))=true ->
  ∃ pl,Rel P ⟨w,Z,fin,io,nt⟩ ⟨ts,os,(enumF 0 ins).map (·.1)⟩ { tmps:=vals.toArray++Array.replicate (nt - vals.length) undef,defers:=[] } w pl Z) /\
  (∀ i,io=some i->∃ lo hi row r,ins=(.io lo hi,.agg row)::r/\noIo r=true)/\(io=none->noIo ins=true):=by
  intro hno;have hn:io=none:=by
   rcases hio with h|⟨lo,hi,v,hm⟩
   · exact h
   · exact absurd hm (xk8 hno lo hi v)
  obtain ⟨_,ts,ps,h1,h2,h3⟩:=zy (.inr hno) h hi;refine ⟨ts,_,h1,(fun hu hus=>⟨over pl0 ps,?_⟩),(fun i hi=>by rw [hn] at hi; cases hi),fun _=>hno⟩
  · rw [yd] at hu;have hus':∀ p∈ps,memN (p.n / 64) ((enumF 0 ins).map (·.1))=true:=fun p hp=>xzl.1 hus (p.n,p.o) (xzv.2 ⟨p,hp,rfl⟩);refine xta hlen hu hus' h3 (fun p hp t rows q ho=>?_) (fun p hp row ho=>?_) (fun i hi=>by rw [hn] at hi; cases hi) (h2.2.nodup hnd) hfin hZ (fun i hi=>by rw [hn] at hi; cases hi) hg
    · obtain ⟨t',rows',q',e,h4⟩:=h2.1 p hp;rw [ho] at e; cases e;exact ⟨h4,fun b hb=>h2.2.subset (x0i.2 ⟨p,hp,hb⟩)⟩
    · obtain ⟨t',rows',q',e,h4⟩:=h2.1 p hp;rw [ho] at e; cases e
 cases hi with
 | nil=>exact plain rfl
 | @cons m v x f r xs g h1 h2 =>
   cases m with
   | pure =>
     refine plain ?_;have:=(zy (P:=P) (w:=w) (Z:=Z) (io:=io) (ins:=(.pure,v)::r) (j:=0) (k:=k) (vals:=x::xs) (fin:=f++g))
     cases hno:noIo r with
     | true=>simpa [noIo] using hno
     | false =>
       exfalso
       cases h1 with
       | pone h1 =>
         simp only [enumF,initK,pars,(xk6 (n:=0) (pin:=false) h1).1,kx,x0l] at h;have:=(zy (.inl (x2v _)) h h2).1; rw [hno] at this; cases this
       | pagg h1 =>
         simp only [enumF,initK,(xij (n:=0) (pin:=false) h1).1,xq] at h;have:=(zy (.inl (x2v _)) h h2).1; rw [hno] at this; cases this
   | own =>
     refine plain ?_
     cases hno:noIo r with
     | true=>simpa [noIo] using hno
     | false =>
       exfalso
       cases h1 with
       | oone h1 =>
         simp only [enumF,initK,pars,kx] at h;have:=(zy (.inl (x2v _)) h h2).1; rw [hno] at this; cases this
       | oagg h1 =>
         simp only [enumF,initK,xq] at h;have:=(zy (.inl (x2v _)) h h2).1; rw [hno] at this; cases this
   | «mut» =>
     cases h1 with
     | mone h1=>exact h.elim
     | magg h1=>exact h.elim
   | io lo hi' =>
     cases h1 with
     | @io _ _ row i f he hr =>
       obtain ⟨hm,c,ty,fs,hc,hsz,hfl,rfl,hcells⟩:=hr;have hio':io=some i:=he;let xs0:List Value:=(c.toList.drop i.o).take row.length;have hxl:xs0.length=row.length:=by simp [xs0]; omega
       have hxg:∀ k,k<row.length->xs0[k]?=c[i.o+k]?:=fun k hk=>by simp only [xs0]; rw [xz7,if_pos hk,x0p]; simp
       obtain ⟨qs,e1,e2,e3,e4,e5⟩:=xik (P:=P) (w:=w) (Z:=Z) (n:=0) (pin:=false) (cs:=row) (xs:=xs0) hfl hxl fun k av x g h1 h2 h3=>by
        have hk:=(xzm.1 h1).1;rw [hxg k hk] at h2;rcases hcells k av g h1 h3 with h|⟨y,hy,h⟩
        · exact .inl h
        · rw [h2] at hy; cases hy; exact .inr h
       simp only [enumF,initK,e1,xq,x5] at h;obtain ⟨hnr,ts,ps,g1,g2,g3⟩:=zy (.inl (x2v _)) h h2;let bx:Plc:=⟨63,.box (pars false true 0 row).1,undef,(i.b,i.o),[i.b]⟩;have hall:=e2.append g2;refine ⟨_,_,g1,(fun hu hus=>⟨over pl0 (bx::(qs++ps)),?_⟩),(fun i _=>⟨_,_,_,_,rfl,hnr⟩),fun hn=>by rw [hn] at hio'; cases hio'⟩;have hmapE:((63,Ob.box (pars false true 0 row).1)::(qs.map (fun p=>(p.n,p.o))++ps.map fun p=>(p.n,p.o)))=(bx::(qs++ps)).map fun p=>(p.n,p.o):=by simp [bx]
       simp only [hmapE] at hu hus ⊢;rw [yd] at hu;have hus':∀ p∈bx::(qs++ps),memN (p.n / 64) ((enumF 0 ((.io lo hi',.agg row)::r)).map (·.1))=true:=fun p hp=>xzl.1 hus (p.n,p.o) (xzv.2 ⟨p,hp,rfl⟩);have hu63:∀ p∈qs++ps,p.n≠63:=by
        intro p hp e;simp only [x0d,uniqN] at hu
        cases hm:memN bx.n ((qs++ps).map (·.n)) with
        | true=>rw [hm] at hu; cases hu
        | false=>exact yr.1 hm (xzv.2 ⟨p,hp,e⟩)
       have hib:i.b ∉ fs.flatten++g:=fun hb=>(hfin _ hb).2.2 i hio' rfl;refine xta hlen hu hus' ?_ (fun p hp t rows q ho=>?_) (fun p hp row' ho=>?_) (fun i' hi'=>?_) ?_ hfin hZ (fun i' hi'=>?_) hg
       · have:=wt (j:=0) (x:=.pointer (some ⟨i.b,i.o,none⟩)) (v:=.one (.ptr 63 0 0)) (ps:=bx::qs) (fun st pl hh=>by
          obtain ⟨k1,_,k3,_⟩:=hh bx (xz5 ..);intro o ho;have:o=.box (pars false true 0 row).1:=x0f (ho.symm.trans k1);subst this;simp only [ptrAt]
          rw [k3]; rfl) (fun u hu=>hu bx (xz5 ..)) g3
         simpa using this
       · rcases xzn.1 hp with rfl|hp
         · cases ho
         · obtain ⟨t',rows',q',e,h4⟩:=hall.1 p hp;rw [ho] at e; cases e;exact ⟨h4,fun b hb=>hall.2.subset (x0i.2 ⟨p,hp,hb⟩)⟩
       · rcases xzn.1 hp with rfl|hp
         · simp only [bx,Ob.box.injEq] at ho;subst ho;have hrl:(pars false true 0 row).1.length=row.length:=by have:=congrArg List.length e5; simpa using this
           refine ⟨i,hio',rfl,rfl,by rw [e5]; exact hm.symm,?_,c,ty,hc,by rw [hrl]; exact hsz,fun st pl hh k av y hk hy=>?_⟩
           · exact e3 _ fun p hp=>hus' p (xzp _ (xzt _ hp))
           · have hh':Held st pl qs:=fun p hp=>hh p (xzp _ (xzt _ hp));have hkl:k<row.length:=by rw [<- hrl]; exact (xzm.1 hk).1
             exact (e4 st pl hh').2 k av y hk (by rw [hxg k hkl]; exact hy)
         · obtain ⟨t',rows',q',e,h4⟩:=hall.1 p hp;rw [ho] at e; cases e
       · have:i'=i:=by have:=hi'.symm.trans hio'; simpa using this
         subst this;refine ⟨by simp [enumF,memN],fun p hp e=>?_⟩;rcases xzn.1 hp with rfl|hp
         · rfl
         · exact absurd e (hu63 p hp)
       · rw [x1o];refine x0j.2 ⟨by simp [bx],hall.2.nodup hnd,fun a ha b hb e=>?_⟩;subst e;rw [xzq.1 ha] at hb;exact hib (hall.2.subset hb)
       · have:i'=i:=by have:=hi'.symm.trans hio'; simpa using this
         subst this;exact ⟨c,ty,hc⟩
end
end Go.AM
end
section
namespace Go.AM
open Go
def resRun (tmps:Array Value):ResultVar->_root_.Go.Sem Value
 | .tmp t=>pure (tmps.getD t undef)
 | .cell a t=>do loadVar t (<- asAddr (tmps.getD a undef))
theorem xk9 {P:Program} {w:World} {α:Type} {g:α->_root_.Go.Sem Value}:∀ {l:List α} {vals:List Value},vals.length=l.length->(∀ (k:Nat) (r:α) (x:Value),l[k]?=some r->vals[k]?=some x->(g r).run P w=.ok x w) ->
 (l.mapM g).run P w=.ok vals w
 | [],[],_,_=>by simp
 | [],_::_,h,_=>by simp at h
 | _::_,[],h,_=>by simp at h
 | a::r,x::xs,hl,h=>by
   have h1:=h 0 a x rfl rfl;have h2:=xk9 (l:=r) (vals:=xs) (by simpa using hl) fun k r x hk hx=>h (k+1) r x (by simpa using hk) (by simpa using hx);rw [List.mapM_cons];simp only [Sem.run_bind,h1,h2,Result.andThen_ok,Sem.run_pure]
theorem xvp {P:Program} {w:World} {α:Type} {g:α->_root_.Go.Sem Value} {arr:Array α} {vals:List Value} (hl:vals.length=arr.size) (h:∀ (k:Nat) (r:α) (x:Value),arr.toList[k]?=some r->vals[k]?=some x->(g r).run P w=.ok x w) :
 (arr.mapM g).run P w=.ok vals.toArray w:=by
 rw [Array.mapM_eq_mapM_toList,map_eq_pure_bind];simp only [Sem.run_bind,xk9 (l:=arr.toList) (vals:=vals) (by simpa using hl) h,Result.andThen_ok,Sem.run_pure]
section
variable {E:Env} (hE:tabB E=true)
include hE
theorem xqs {st:St} {r:ResultVar} {k:Bool->List AV->Prop} (h:resV E st r k):∃ ag cs,k ag cs/\(ag=false->cs.length=1) /\
 ∀ (cx:Cx) (a:Act) (w:World) (pl:Pl) (Z:Nat->Prop),Rel E.P cx st a w pl Z->∃ (x:Value) (ys:List Value),(resRun a.tmps r).run E.P w=.ok x w/\Ars E.P st pl Z w cs ys/\x=bif ag then .agg ys.toArray else ys.getD 0 undef:=by
 unfold resV at h
 split at h
 · rename_i i
   split at h
   · rename_i b hl;refine ⟨false,[b],h,fun _=>rfl,fun cx a w pl Z R=>?_⟩;obtain ⟨x,h1,h2⟩:=R.tmp i _ hl;refine ⟨x,[x],by simp [resRun,x0s,h1],⟨rfl,fun k av y hk hy=>?_⟩,rfl⟩
     cases k with
     | zero=>simp at hk hy; subst hk; subst hy; exact h2
     | succ k=>simp at hk
   · rename_i cs hl;refine ⟨true,cs,h,(fun e=>by cases e),fun cx a w pl Z R=>?_⟩;obtain ⟨x,h1,ys,rfl,h2⟩:=R.tmp i _ hl;exact ⟨_,ys,by simp [resRun,x0s,h1],h2,rfl⟩
   · exact h.elim
 · rename_i i t
   split at h
   · rename_i n off hl;obtain ⟨ti,hT,_,h⟩:=zf hE h
     split at h
     · rename_i row hob
       split at h
       · rename_i hle hna;have hlen:=xce hle;have hll:=y6.1 hle;refine ⟨_,_,h,fun ha=>by rw [hlen]; exact hT.one ha,fun cx a w pl Z R=>?_⟩;obtain ⟨x,h1,h2⟩:=R.tmp i _ hl;have h3:=h2 _ hob;obtain ⟨hown,c,ty,hc,hsz,hr⟩:=R.obj n _ hob;let xs:=((c.toList.drop ((pl.adr n).2+off)).take ti.n);have hxl:xs.length=ti.n:=by simp [xs]; omega
         have hars:Ars E.P st pl Z w (takeC ti.n (dropC off row)) xs:=by
          refine ⟨by rw [hxl,hlen],fun k av y hk hy=>?_⟩;obtain ⟨_,hk'⟩:=xcd hk;obtain ⟨_,hy'⟩:=zi hy;exact hr (off+k) av y hk' (by simpa [x1m] using hy')
         refine ⟨_,xs,?_,hars,rfl⟩;have:=vu (w:=w) hT (pl.adr n).1 ((pl.adr n).2+off) xs hxl fun k x hk=>by
          obtain ⟨_,hk'⟩:=zi hk;rw [cell_of_row w _ _ c ty (0,0) hc];simpa using hk'
         simp only [resRun,x0s,h1,x1v,h3,ptrAt];simp [this,asAddr]
       · exact h.elim
     · exact h.elim
   · exact h.elim
omit hE in
theorem xqt {st:St} {ag:Bool} {cs:List AV} {del:List Nat} {k:List AV->List Nat->Prop} (h:retC st ag cs del k):∃ (cs':List AV) (ms:List Nat),k cs' (ms.reverse++del)/\cs'.length=cs.length/\ms.Nodup/\(∀ m∈ms,m ∉ del)/\(∀ m∈ms,st.has m) /\
 ∀ (P:Program) (cx:Cx) (a:Act) (w:World) (pl:Pl) (Z:Nat->Prop),Rel P cx st a w pl Z->∀ ys,Ars P st pl Z w cs ys->Ows P w Z cs' ys (ms.flatMap pl.own):=by
 unfold retC at h
 split at h
 · rename_i n
   split at h
   · rename_i row hm hob;obtain ⟨row',ro,ms,h,h1,h2,h3,h4,h5,h6⟩:=zc h;have hn:st.has n:=by unfold St.has St.O; rw [hob]; rfl
     refine ⟨[.fp [] row' 0],n::ms,by simpa using h,rfl,x0x.2 ⟨fun hmm=>h4 n hmm (by simp),h3⟩,fun m hm'=>?_,fun m hm'=>?_,fun P cx a w pl Z R ys hy=>?_⟩
     · rcases xzn.1 hm' with rfl|hm'
       · exact yr.1 hm
       · exact fun hd=>h4 m hm' (xzp _ hd)
     · rcases xzn.1 hm' with rfl|hm'
       · exact hn
       · obtain ⟨t,rows,e⟩:=h5 m hm'; unfold St.has St.O; rw [h1.mem e]; rfl
     · match ys,hy with
       | [],hy=>exact absurd hy.1 (by simp)
       | _::_::_,hy=>exact absurd hy.1 (by simp)
       | [y],hy =>
         have h7:y=_:=hy.2 0 _ y rfl rfl _ hob;obtain ⟨hown,c,ty,hc,hsz,hr⟩:=R.obj n _ hob;let xs:=((c.toList.drop (pl.adr n).2).take row.length);have hxl:xs.length=row.length:=by simp [xs]; omega
         have hxg:∀ k,k<row.length->xs[k]?=c[(pl.adr n).2+k]?:=fun k hk=>by simp only [xs]; rw [xz7,if_pos hk,x0p]; simp
         obtain ⟨fs,e1,e2,e3⟩:=h6 P cx st a w pl Z R h1 xs ⟨hxl,fun k av y hk hy=>hr k av y hk (by rw [<- hxg k (xzm.1 hk).1]; exact hy)⟩;refine ⟨[(pl.adr n).1::fs.flatten],by simp [hown,e2],rfl,rfl,fun k av x g hk hx hg=>?_⟩
         cases k with
         | succ k=>simp at hk
         | zero =>
           simp at hk hx hg;subst hk; subst hx; subst hg;rw [h7];simp only [ptrAt,x31];exact .fp hc (by rw [h2]; exact hsz) e1 fun k av x f hk hx hf=>e3 k av x f hk (by rw [hxg k (by rw [<- h2]; exact (xzm.1 hk).1)]; exact hx) hf
   · exact h.elim
 · obtain ⟨row',ro,ms,h,h1,h2,h3,h4,h5,h6⟩:=zc h;refine ⟨row',ms,h,h2,h3,h4,fun m hm=>?_,fun P cx a w pl Z R ys hy=>?_⟩
   · obtain ⟨t,rows,e⟩:=h5 m hm; unfold St.has St.O; rw [h1.mem e]; rfl
   · obtain ⟨fs,e1,e2,e3⟩:=h6 P cx st a w pl Z R h1 ys hy;exact ⟨fs,e2.symm,e1,by rw [hy.1,h2],e3⟩
theorem xhk {st:St}:∀ {rs:List ResultVar} {del:List Nat} {k:List (Bool × List AV)->List Nat->Prop},resK E st rs del k->∃ (l:List (Bool × List AV)) (ms:List Nat),k l (ms.reverse++del)/\l.length=rs.length/\ms.Nodup/\(∀ m∈ms,m ∉ del)/\(∀ m∈ms,st.has m) /\
 ∀
  (cx:Cx) (a:Act) (w:World) (pl:Pl) (Z:Nat->Prop),Rel E.P cx st a w pl Z->∃ (xs:List Value) (fs:List (List Nat)),xs.length=rs.length/\fs.length=rs.length/\fs.flatten=ms.flatMap pl.own /\
  (∀ (k:Nat) (r:ResultVar) (x:Value),rs[k]?=some r->xs[k]?=some x->(resRun a.tmps r).run E.P w=.ok x w) /\
  ∀ (k:Nat) (ag:Bool) (cs:List AV) (x:Value) (f:List Nat),l[k]?=some (ag,cs)->xs[k]?=some x->fs[k]?=some f->(ag=false->cs.length=1)/\∃ ys:List Value,Ows E.P w Z cs ys f/\x=bif ag then .agg ys.toArray else ys.getD 0 undef
 | [],del,k,h=>⟨[],[],h,rfl,x09,by simp,by simp,fun cx a w pl Z R=>⟨[],[],rfl,rfl,rfl,by simp,by simp⟩⟩
 | r::rs,del,k,h=>by
   simp only [resK] at h;obtain ⟨ag,cs,h,a1,a2⟩:=xqs hE h;obtain ⟨cs',ms,h,b1,b2,b3,b4,b5⟩:=xqt h;obtain ⟨l,ms',h,c1,c2,c3,c4,c5⟩:=xhk h;refine ⟨(ag,cs')::l,ms++ms',by simpa [x3l,x0c] using h,by simp [c1],?_,?_,?_,fun cx a w pl Z R=>?_⟩
   · exact x0j.2 ⟨b2,c2,fun p hp q hq e=>by subst e; exact c3 p hq (by simp [hp])⟩
   · intro m hm;rcases xzs.1 hm with hm|hm
     · exact b3 m hm
     · exact fun hd=>c3 m hm (xzz _ hd)
   · intro m hm;exact (xzs.1 hm).elim (b4 m) (c4 m)
   · obtain ⟨x,ys,d1,d2,d3⟩:=a2 cx a w pl Z R;have d4:=b5 E.P cx a w pl Z R ys d2;obtain ⟨xs,fs,e1,e2,e3,e4,e5⟩:=c5 cx a w pl Z R;refine ⟨x::xs,(ms.flatMap pl.own)::fs,by simp [e1],by simp [e2],by simp [e3,x1b],fun k r' x' hk hx=>?_,fun k ag' cs'' x' f hk hx hf=>?_⟩
     · cases k with
       | zero=>simp at hk hx; subst hk; subst hx; exact d1
       | succ k=>exact e4 k r' x' (by simpa using hk) (by simpa using hx)
     · cases k with
       | zero =>
         simp at hk hx hf;obtain ⟨rfl,rfl⟩:=hk; subst hx; subst hf;exact ⟨fun ha=>by rw [b1]; exact a1 ha,ys,d4,d3⟩
       | succ k=>exact e5 k ag' cs'' x' f (by simpa using hk) (by simpa using hx) (by simpa using hf)
end
theorem xfz {st:St}:∀ {cs:List AV} {del:List Nat} {k:List AV->List (Nat × Ob)->List Nat->Prop},rowCells st cs del k->∀ c∈cs,c.isNa=false
 | [],_,_,_,c,hc=>by cases hc
 | c0::r,del,k,h,c,hc=>by
   have go:∀ {del k},rowCells st r del k->c0.isNa=false->c.isNa=false:=fun h h0=>(xzn.1 hc).elim (fun e=>e▸h0) (xfz h c)
   cases c0 with
   | prim v=>exact go (by simpa only [rowCells] using h) rfl
   | emp t=>exact go (by simpa only [rowCells] using h) rfl
   | ref m =>
     simp only [rowCells] at h
     split at h
     · exact go h rfl
     · exact h.elim
   | fr ns t rows =>
     cases ns with
     | nil=>exact go (by simpa only [rowCells] using h) rfl
     | cons n ns=>simp only [rowCells] at h
   | _=>simp only [rowCells] at h
theorem Ow.notNa {P:Program} {w:World} {Z:Nat->Prop} {av:AV} {x:Value} {f:List Nat} (h:Ow P w Z av x f):av.isNa=false:=by cases h<;>rfl
theorem xc6 {P:Program} {w:World} {Z:Nat->Prop} {io:Option Io}:∀ {ins:List (Mode × TV)} {vals:List Value},noIo ins=true->(∀ v,(Mode.mut,v) ∉ ins)->vals.length=ins.length->OutsR P w Z io ins vals [] []
 | [],[],_,_,_=>.nil
 | [],_::_,_,_,h=>by simp at h
 | _::_,[],_,_,h=>by simp at h
 |
  (m,v)::r,x::xs,h1,h2,h3=>by
  have:=xc6 (P:=P) (w:=w) (Z:=Z) (io:=io) (ins:=r) (vals:=xs) (by cases m<;>first|exact h1|cases h1) (fun v hv=>h2 v (xzp _ hv)) (by simpa using h3)
  cases m with
  | pure=>exact .pure this
  | own=>exact .own this
  | «mut»=>exact absurd (xz5 ..) (h2 v)
  | io lo hi=>cases h1
end Go.AM
end
section
namespace Go.AM
open Go
theorem xf0 {P:Program} {w:World} {Z:Nat->Prop} {io:Option Io}:∀ {ins:List (Mode × TV)} {j:Nat} {vals:List Value} {fin:List Nat} {k:List (Nat × TV)->List (Nat × Ob)->Prop},initK (enumF j ins) k->InsR P w Z io ins vals fin->∀ v,(Mode.mut,v) ∉ ins
 | [],j,vals,fin,k,h,hi,v=>by simp
 |
  (m,u)::r,j,_,_,k,h,.cons (x:=x) (f:=f) (xs:=xs) (g:=g) h1 h2,v=>by
  intro hm;have go:∀ {k'},initK (enumF (j+1) r) k'->m≠.mut->False:=fun h hne=>by
   rcases xzn.1 hm with e|hm
   · cases e; exact hne rfl
   · exact xf0 h h2 v hm
  cases h1 with
  | pone h1 =>
    simp only [enumF,initK,pars,kx] at h;exact go h (by intro e; cases e)
  | pagg h1 =>
    simp only [enumF,initK,xq] at h;exact go h (by intro e; cases e)
  | oone h1 =>
    simp only [enumF,initK,pars,kx] at h;exact go h (by intro e; cases e)
  | oagg h1 =>
    simp only [enumF,initK,xq] at h;exact go h (by intro e; cases e)
  | mone h1=>exact h.elim
  | magg h1=>exact h.elim
  | io he h1 =>
    simp only [enumF,initK] at h
    cases j with
    | zero =>
      simp only [xq] at h;exact go h (by intro e; cases e)
    | succ j=>exact h.elim
theorem xnu {P:Program} {w:World} {fn:Func} {tmps:Array Value} {xs:List Value} (hl:xs.length=fn.results.size) (h:∀ (k:Nat) (r:ResultVar) (x:Value),fn.results.toList[k]?=some r->xs[k]?=some x->(resRun tmps r).run P w=.ok x w) :
 (results fn tmps).run P w=.ok (if h:xs.toArray.size=1 then xs.toArray[0] else .tuple xs.toArray) w:=by
 unfold results;simp only [Sem.run_bind];rw [xvp hl (fun k r x hk hx=>by have:=h k r x hk hx; cases r<;>exact this)];simp only [Result.andThen_ok,Sem.run_pure]
theorem xxf:∀ {ins:List (Mode × TV)},noIo ins=true->isIo (enumF 0 ins)=false
 | [],_=>rfl
 | (m,v)::r,h=>by cases m<;>first|rfl|cases h
section
variable {E:Env} (hE:tabB E=true) (hm:E.P.follows .mixedOrders=true)
include hE hm
theorem xvq {f : Nat} {fn : Func} {c : Code} {ins : List (Mode × TV)} {outs : List TV} {res : TV} (hf : E.P.funcs[f]? = some fn) (hb : fn.body = some c) (hn : (fn.name == "runtime.NumGoroutine") = false)
 (hc:codeOk fn.ntmps c=true) (hnt:Nat.ble ins.length fn.ntmps=true) (h:fnVc E fn c (enumF 0 ins) fun v os=>v=res/\os=outs):Sem E.P f ins outs res:=by
 refine ⟨⟨fn,hf,by rw [hb]; rfl,hn⟩,fun w Z io vals fin hg hi hio hnd hfin hZ=>?_⟩;have hnt':=x0v hnt;unfold fnVc at h;obtain ⟨ts,os,h,hR,hio1,hio2⟩:=xvo (nt:=fn.ntmps) h hi hio hnd hfin hZ hnt' hg;have hlen:=xk7 hi;have hnm:=xf0 (by assumption) hi
 · rw [we,ka] at h
   split at h
   case h_2=>exact h.elim
   rename_i hchk;replace hchk:=xm9 hchk;obtain ⟨pl,R⟩:=hR hchk.1 hchk.2;refine calls_of_wp hf hb ?_;have hv:=jm hE hm (xxc E) (cx:=⟨w,Z,fin,io,fn.ntmps⟩) hc h R;simp only [x1t];refine wp_mono hv fun e a w' hq=>?_
   have fine:∀ st pl' Z',AM.fin E fn (enumF 0 ins) st (fun v os=>v=res/\os=outs)->Rel E.P ⟨w,Z,fin,io,fn.ntmps⟩ st a w' pl' Z' ->
    a.defers=[]/\∃ v,(results fn a.tmps).run E.P w'=.ok v w'/\∃ v',Ending.returned v=.returned v'/\Post E.P w Z io ins vals fin outs res v' w':=by
    intro st pl' Z' hfin' R';refine ⟨R'.df,?_⟩;unfold AM.fin at hfin';obtain ⟨l,ms,h1,a1,a2,a3,a4,a5⟩:=xhk hE hfin';obtain ⟨xs,fs,b1,b2,b3,b4,b5⟩:=a5 _ a w' pl' Z' R';have hres:(results fn a.tmps).run E.P w'=.ok (if h:xs.toArray.size=1 then xs.toArray[0] else .tuple xs.toArray) w':=by
     exact xnu (by simpa using b1) b4
    refine ⟨_,hres,_,rfl,?_⟩
    have hrs:∀ (l':List (Bool × List AV)),l'=l->(∀ outs',(match (generalizing:=false) l' with|[(ag,cs)]=>fTV (mkTV ag cs) fun v=>v=res/\outs'=outs|l'=>(TV.tup l'=res/\outs'=outs))->outs'=outs /\
     ResR E.P w' Z' res (if h:xs.toArray.size=1 then xs.toArray[0] else .tuple xs.toArray) fs.flatten):=by
     intro l' hl' outs' hh;subst hl'
     match l',a1 with
     | [(ag,cs)],a1 =>
       simp only [zp] at hh;obtain ⟨rfl,rfl⟩:=hh;refine ⟨rfl,?_⟩;have hx1:xs.length=1:=by rw [b1,<- a1]; rfl
       have hf1:fs.length=1:=by rw [b2,<- a1]; rfl
       match xs,hx1,fs,hf1 with
       | [x],_,[f0],_ =>
         obtain ⟨c1,ys,c2,c3⟩:=b5 0 ag cs x f0 rfl rfl rfl;simp only [x1t,xz6,xz4,Nat.zero_add,dif_pos,x01,x32,x0l,List.getElem_toArray,List.getElem_cons_zero]
         cases ag with
         | true=>rw [c3]; exact .agg c2
         | false =>
           have hc1:=c1 rfl
           match cs,hc1 with
           | [av],_ =>
             obtain ⟨gs,g1,g2,g3,g4⟩:=c2
             match ys,g3 with
             | [y],_ =>
               match gs,g2 with
               | [g0],_ =>
                 simp at g1;rw [c3,g1];exact .one (g4 0 av y g0 rfl rfl rfl)
     | [],a1 =>
       obtain ⟨rfl,rfl⟩:=hh;refine ⟨rfl,?_⟩;have hx0:xs=[]:=x0k (by rw [b1,<- a1]; rfl);have hf0:fs=[]:=x0k (by rw [b2,<- a1]; rfl);subst hx0; subst hf0;exact .tup (xs:=[]) (fs:=[]) rfl rfl (by simp)
     | p::q::r,a1 =>
       obtain ⟨rfl,rfl⟩:=hh;refine ⟨rfl,?_⟩;have hx2:¬ xs.toArray.size=1:=by
        have:xs.length=r.length+2:=by rw [b1,<- a1]; simp
        simp only [x1t]; omega
       rw [dif_neg hx2];exact .tup (by rw [b1,a1]) (by rw [b2,a1]) fun k ag cs x f h1 h2 h3=>(b5 k ag cs x f h1 h2 h3).2
    have hblk:∀ m,st.has m->∀ b∈pl'.own m,(b∈fin\/w.heap.size<=b\/∃ i,io=some i/\b=i.b)/\b<w'.heap.size/\¬ Z' b:=by
     intro m hm b hb;obtain ⟨k1,k2,k3⟩:=R'.lt m hm b hb;refine ⟨?_,k1,k2⟩;rcases k3 with h|⟨i,hi',h⟩|h
     · exact .inl h
     · exact .inr (.inr ⟨i,hi',h⟩)
     · exact .inr (.inl h)
    have hZ':∀ b,Z' b->(Z b\/b∈fin\/w.heap.size<=b)/\b<w'.heap.size/\∀ i,io=some i->b≠i.b:=fun b hb=>⟨(R'.zlt b hb).2.1,(R'.zlt b hb).1,(R'.zlt b hb).2.2⟩
    cases io with
    | none =>
      rw [xxf (hio2 rfl)] at h1;obtain ⟨he,hr⟩:=hrs l rfl [] (by simp only [outK] at h1; exact h1);subst he;refine ⟨Z',fs.flatten,[],R'.fr,R'.z0,hZ',hr,xc6 (hio2 rfl) hnm hlen,by rw [x0l,b3]; exact qq R' a2 a4,fun b hb=>?_⟩;rw [x0l,b3] at hb;obtain ⟨m,hm',hb⟩:=x0i.1 hb;obtain ⟨k1,k2,k3⟩:=hblk m (a4 m hm') b hb;refine ⟨?_,k2,k3,fun i hi'=>by cases hi'⟩;rcases k1 with h|h|⟨i,hi',_⟩
      · exact .inl h
      · exact .inr h
      · cases hi'
    | some i =>
      obtain ⟨lo,hi',row,r,rfl,hnr⟩:=hio1 i rfl;simp only [enumF,isIo,outK] at h1
      split at h1
      · rename_i row2 h63 hob;have h63':=yr.1 h63;rw [x0l] at h63';have h63m:63 ∉ ms:=fun h=>h63' (x1w.2 h);have hna:=xfz h1;obtain ⟨row',ro,ms2,h1,c1,c2,c3,c4,c5,c6⟩:=zc h1;rw [xq] at h1;obtain ⟨he,hr⟩:=hrs l rfl [.agg row'] h1;subst he;have hn63:st.has 63:=by unfold St.has St.O; rw [hob]; rfl
        obtain ⟨hown,cc,ty,hc,hsz,hrr⟩:=R'.obj 63 _ hob;have had:=(R'.u0 i rfl).2 hn63;have had1:(pl'.adr 63).1=i.b:=by rw [had]
        have had2:(pl'.adr 63).2=i.o:=by rw [had]
        obtain ⟨_,hmask⟩:=R'.io i rfl 63 row2 hob had1;rw [had1] at hown hc;rw [had2] at hsz hrr;let xs2:=((cc.toList.drop i.o).take row2.length);have hxl:xs2.length=row2.length:=by simp [xs2]; omega
        have hxg:∀ k,k<row2.length->xs2[k]?=cc[i.o+k]?:=fun k hk=>by simp only [xs2]; rw [xz7,if_pos hk,x0p]; simp
        obtain ⟨fs2,e1,e2,e3⟩:=c6 E.P _ st a w' pl' Z' R' c1 xs2 ⟨hxl,fun k av y hk hy=>hrr k av y hk (by rw [<- hxg k (xzm.1 hk).1]; exact hy)⟩;have hms2:∀ m∈ms2,st.has m/\m ∉ ms/\m≠63/\∃ t rows p,lk st.s m=some (.arr t rows p):=fun m hm=>by
         obtain ⟨t,rows,e⟩:=c5 m hm;have:=c1.mem e;exact ⟨by unfold St.has St.O; rw [this]; rfl,fun h=>c4 m hm (by simp [h]),fun h=>c4 m hm (by simp [h]),t,rows,false,this⟩
        have hio0:∀ m∈ms++ms2,∀ b∈pl'.own m,b≠i.b:=by
         intro m hm b hb e;rcases xzs.1 hm with h|h
         · exact R'.dj m 63 (a4 m h) hn63 (fun e=>h63m (e▸h)) b hb (by rw [hown,e]; exact xzq.2 rfl)
         · obtain ⟨k1,k2,k3,k4⟩:=hms2 m h;exact R'.dj m 63 k1 hn63 k3 b hb (by rw [hown,e]; exact xzq.2 rfl)
        obtain ⟨x,xr,rfl⟩:∃ x xr,vals=x::xr:=by
         cases vals with
         | nil=>simp at hlen
         | cons x xr=>exact ⟨x,xr,rfl⟩
        have hout:OutsR E.P w' Z' (some i) ((.io lo hi',.agg row)::r) (x::xr) [.agg row'] (fs2.flatten++[]):=by
         refine .io rfl ⟨?_,cc,ty,fs2,hc,by rw [c2]; exact hsz,e1,rfl,fun k av g hk hg=>.inr ?_⟩ (xc6 hnr (fun v hv=>hnm v (xzp _ hv)) (by simpa using hlen))
         · rw [<- hmask];apply List.ext_getElem
           · simp [c2]
           · intro k h1 h2;simp only [List.getElem_map];have k1:k<row2.length:=by simpa using h1
             have k2:k<row'.length:=by simpa using h2
             rw [hna _ (x0m k1)];rw [(e3 k _ _ _ (xzh k2) (xzh (by omega)) (xzh (by omega))).notNa]
         · have k2:k<row2.length:=by rw [<- c2]; exact (xzm.1 hk).1
           have k3:k<xs2.length:=by rw [hxl]; exact k2
           exact ⟨xs2[k],by rw [<- hxg k k2]; exact xzh k3,e3 k av _ g hk (xzh k3) hg⟩
        have hall:fs.flatten++(fs2.flatten++[])=(ms++ms2).flatMap pl'.own:=by rw [x0l,b3,e2,x1b]
        have hnda:(ms++ms2).Nodup:=x0j.2 ⟨a2,c3,fun p hp q hq e=>(hms2 q hq).2.1 (e▸hp)⟩;have hhas:∀ m∈ms++ms2,st.has m:=fun m hm=>(xzs.1 hm).elim (a4 m) fun h=>(hms2 m h).1;refine ⟨Z',fs.flatten,fs2.flatten++[],R'.fr,R'.z0,hZ',hr,hout,by rw [hall]; exact qq R' hnda hhas,fun b hb=>?_⟩;rw [hall] at hb;obtain ⟨m,hm',hb⟩:=x0i.1 hb;obtain ⟨k1,k2,k3⟩:=hblk m (hhas m hm') b hb;have k4:=hio0 m hm' b hb;refine ⟨?_,k2,k3,fun i' hi''=>by cases hi''; exact k4⟩;rcases k1 with h|h|⟨i',hi'',h⟩
        · exact .inl h
        · exact .inr h
        · cases hi''; exact absurd h k4
      · exact h1.elim
   cases e with
   | normal=>obtain ⟨st,pl',Z',k1,k2⟩:=hq; exact fine st pl' Z' k1 k2
   | ret=>obtain ⟨st,pl',Z',k1,k2⟩:=hq; exact fine st pl' Z' k1 k2
   | exit id=>obtain ⟨st,pl',Z',k1,k2⟩:=hq; exact k1.elim
   | _=>exact hq.elim
def okFn (fn : Func) (n : Nat) : Bool := fn.body.isSome && !(fn.name == "runtime.NumGoroutine") && codeOk fn.ntmps (fn.body.getD .skip) && Nat.ble n fn.ntmps
theorem xwx {f:Nat} {fn:Func} {ins:List (Mode × TV)} {outs:List TV} {res:TV} (hf:E.P.funcs[f]?=some fn) (hk:okFn fn ins.length=true)
 (h:fnVc E fn (fn.body.getD .skip) (enumF 0 ins) fun v os=>v=res/\os=outs):Sem E.P f ins outs res:=by
 unfold okFn at hk;simp only [xzj,x05] at hk;obtain ⟨⟨⟨h1,h2⟩,h3⟩,h4⟩:=hk
 cases hb:fn.body with
 | none=>rw [hb] at h1; cases h1
 | some c =>
   rw [hb] at h h3;exact xvq hE hm hf hb h2 h3 h4 h
end
end Go.AM
end
section
namespace Go.AM
open Go
def bdA:Nat->AV->Prop
 | 0,_=>True
 | n+1,.sl _ rows=>rows.length<=1125899906842624/\∀ row∈rows,∀ a∈row,bdA n a
 | n+1,.fr _ _ rows=>rows.length<=1125899906842624/\∀ row∈rows,∀ a∈row,bdA n a
 | n+1,.fp _ row _=>∀ a∈row,bdA n a
 | _+1,_=>True
theorem flat_len {m:Nat}:∀ {rows:List (List AV)},(∀ row∈rows,row.length=m)->rows.flatten.length=rows.length*m
 | [],_=>by simp
 | r::rs,h=>by
   simp only [x01,xzu,xz6,h r (by simp),flat_len (rows:=rs) fun r hr=>h r (by simp [hr]),x3o,Nat.one_mul]; omega
theorem xqu {P:Program} {w:World} {S:Nat->Prop} {av:AV} {x:Value} (h:Rd P w S av x):∀ n,bdA n av:=by
 induction h with
 | prim _=>intro n; cases n<;>trivial
 | emp=>intro n; cases n<;>trivial
 | fn=>intro n; cases n<;>trivial
 | @sl t rows a len cap cells hm hl hcap hw hn hb hc hr ih =>
   intro n
   cases n with
   | zero=>trivial
   | succ n =>
     refine ⟨hm,fun row hrow a ha=>?_⟩;obtain ⟨k,hk⟩:=x1f.1 (x08.2 ⟨row,hrow,ha⟩);have h1:=(xzm.1 hk).1;rw [flat_len hw,<- hn] at h1;exact ih k a _ hk (xzh h1) n
 | @fr ns t rows v h ih =>
   intro n;have:=ih n
   cases n with
   | zero=>trivial
   | succ n=>exact this
 | @fp ns row off b o cells hb hn hc hr ih =>
   intro n
   cases n with
   | zero=>trivial
   | succ n =>
     intro a ha;obtain ⟨k,hk⟩:=x1f.1 ha;have h1:=(xzm.1 hk).1;rw [<- hn] at h1;exact ih k a _ hk (xzh h1) n
theorem xhl {P:Program} {w:World} {Z:Nat->Prop} {av:AV} {x:Value} {f:List Nat} (h:Ow P w Z av x f) (n:Nat):bdA n av:=xqu (h.rd (S:=fun _=>True) (fun _ _=>trivial) fun _ _=>trivial) n
def bdT:TV->Prop
 | .one a=>bdA 4 a
 | .agg cs=>∀ a∈cs,bdA 4 a
 | .tup _=>True
def bdIns:List (Mode × TV)->Prop
 | []=>True
 | (_,v)::r=>bdT v/\bdIns r
theorem xy5 {P:Program} {w:World} {Z:Nat->Prop} {io:Option Io} {m:Mode} {v:TV} {x:Value} {f:List Nat} (h:InR P w Z io m v x f):bdT v:=by
 cases h with
 | pone h=>exact xqu h 4
 | pagg h =>
   intro a ha;obtain ⟨k,hk⟩:=x1f.1 ha;have h1:=(xzm.1 hk).1;rw [<- h.1] at h1;exact xqu (h.2 k a _ hk (xzh h1)) 4
 | oone h=>exact xhl h 4
 | oagg h =>
   obtain ⟨fs,_,h2,h3,h4⟩:=h;intro a ha;obtain ⟨k,hk⟩:=x1f.1 ha;have h1:=(xzm.1 hk).1;exact xhl (h4 k a _ _ hk (xzh (h3▸h1)) (xzh (h2▸h1))) 4
 | mone h=>exact xhl h 4
 | magg h =>
   obtain ⟨fs,_,h2,h3,h4⟩:=h;intro a ha;obtain ⟨k,hk⟩:=x1f.1 ha;have h1:=(xzm.1 hk).1;exact xhl (h4 k a _ _ hk (xzh (h3▸h1)) (xzh (h2▸h1))) 4
 | io he h =>
   obtain ⟨_,c,ty,fs,_,_,h2,_,h4⟩:=h;intro a ha;obtain ⟨k,hk⟩:=x1f.1 ha;have h1:=(xzm.1 hk).1;rcases h4 k a _ hk (xzh (h2▸h1)) with ⟨rfl,_⟩|⟨x,_,h⟩
   · trivial
   · exact xhl h 4
theorem xyf {P:Program} {w:World} {Z:Nat->Prop} {io:Option Io} {ins:List (Mode × TV)} {vals:List Value} {f:List Nat} (h:InsR P w Z io ins vals f):bdIns ins:=by
 induction h with
 | nil=>trivial
 | cons h _ ih=>exact ⟨xy5 h,ih⟩
theorem xyg {E:Env} (hE:tabB E=true) (hm:E.P.follows .mixedOrders=true) {f:Nat} {fn:Func} {ins:List (Mode × TV)} {outs:List TV} {res:TV} (hf:E.P.funcs[f]?=some fn) (hk:okFn fn ins.length=true)
 (h:bdIns ins->fnVc E fn (fn.body.getD .skip) (enumF 0 ins) fun v os=>v=res/\os=outs):Sem E.P f ins outs res:=by
 have hk':=hk;unfold okFn at hk';simp only [xzj,x05] at hk';obtain ⟨⟨⟨h1,h2⟩,h3⟩,h4⟩:=hk';refine ⟨⟨fn,hf,by cases hb:fn.body with|none=>rw [hb] at h1; cases h1|some _=>rfl,h2⟩,fun w Z io vals fin hG hi=>?_⟩;exact (xwx hE hm hf hk (h (xyf hi))).2 w Z io vals fin hG hi
theorem wrap64 {e:Int} (h1 : -9223372036854775808<=e) (h2:e<=9223372036854775807):IntKind.i64.wrap e=e:=IntWalk.i64_in e ⟨h1,h2⟩
theorem w64 {e:Int} {k:Int->Prop} (h1 : -9223372036854775808<=e) (h2:e<=9223372036854775807) (h:k e):∃ c,IntKind.i64.wrap e=c/\k c:=⟨e,wrap64 h1 h2,h⟩
theorem q64 {a b:Int} {k:Int->Prop} (hb:0<b) (ha:0<=a) (h2:a<=9223372036854775807) (h:k (a / b)):b≠0/\∃ c,IntKind.i64.wrap (a.tdiv b)=c/\k c:=by
 refine ⟨by omega,a / b,?_,h⟩;rw [Int.tdiv_eq_ediv_of_nonneg ha];have h3:0<=a / b:=x3g ha (by omega);have h4:a / b<=a:=x33 _ ha;exact wrap64 (by omega) (by omega)
theorem r64 {a b:Int} {k:Int->Prop} (hb:0<b) (ha:0<=a) (h:k (a % b)):b≠0/\∃ c,a.tmod b=c/\k c :=
 ⟨by omega,a % b,Int.tmod_eq_emod_of_nonneg ha,h⟩
abbrev eI (n:Int):AV:=.prim (.int .i64 n)
abbrev eB (b:Bool):AV:=.prim (.bool b)
abbrev I (n:Int):TV:=.one (.prim (.int .i64 n))
abbrev B (b:Bool):TV:=.one (.prim (.bool b))
abbrev rI (n:Int):List AV:=[.prim (.int .i64 n)]
abbrev ints (l:List Int):List (List AV):=l.map rI
end Go.AM
end
section
namespace Go.AM
open Go
def D1 {α:Type} (F:(α->Prop)->Prop):Prop:=∀ k,F k->∃ x,k x/\∀ k',k' x->F k'
def D2 {α β:Type} (F:(α->β->Prop)->Prop):Prop:=∀ k,F k->∃ x y,k x y/\∀ k',k' x y->F k'
def D3 {α β γ:Type} (F:(α->β->γ->Prop)->Prop):Prop:=∀ k,F k->∃ x y z,k x y z/\∀ k',k' x y z->F k'
def D4 {α β γ δ:Type} (F:(α->β->γ->δ->Prop)->Prop):Prop:=∀ k,F k->∃ x y z u,k x y z u/\∀ k',k' x y z u->F k'
def D0 (F:Prop->Prop):Prop:=∀ k,F k->k/\∀ k':Prop,k'->F k'
section
variable {E:Env} {st:St}
theorem xc7 {t:Nat}:D1 (tyI E t):=fun k h=>by
 unfold tyI at h ⊢
 cases hl:lk E.T t with
 | none=>rw [hl] at h; exact h.elim
 | some ti=>rw [hl] at h; exact ⟨ti,h,fun k' h'=>h'⟩
theorem xyh {t:Nat}:D1 (ptyI E t):=fun k h=>by
 unfold ptyI at h ⊢
 cases hl:lk E.T t with
 | none=>rw [hl] at h; exact h.elim
 | some ti =>
   rw [hl] at h;obtain ⟨d,n,z⟩:=ti
   cases d with
   | ptr e=>exact xc7 _ h
   | _=>exact ⟨_,h,fun k' h'=>h'⟩
theorem xhm {t:Nat}:D1 (tyE E t):=fun k h=>by
 unfold tyE at h ⊢
 cases hl:lk E.T t with
 | none=>rw [hl] at h; exact h.elim
 | some ti =>
   rw [hl] at h;obtain ⟨d,n,z⟩:=ti
   cases d<;>first|exact h.elim|exact ⟨_,h,fun k' h'=>h'⟩
theorem wu {ty:Nat} {x:Operand}:D2 (getX E st ty x):=fun k h=>by
 cases x with
 | tmp i =>
   simp only [getX] at h ⊢
   cases hl:lk st.t i with
   | none=>rw [hl] at h; exact h.elim
   | some v=>rw [hl] at h; exact ⟨_,_,h,fun k' h'=>h'⟩
 | const v =>
   simp only [getX] at h ⊢
   split at h
   · obtain ⟨e,h1,h2⟩:=xhm _ h;exact ⟨_,_,h1,fun k' h'=>h2 _ h'⟩
   all_goals first
    | exact h.elim
    | skip
   rename_i v' h1 h2 h3 h4 h5 h6 h7 h8;exact ⟨_,_,h,fun k' h'=>h'⟩
 | func f=>exact ⟨_,_,h,fun k' h'=>h'⟩
 | global g=>exact h.elim
theorem xcl:∀ {l:List (Nat × Operand)},D2 (getXs E st l)
 | []=>fun k h=>⟨_,_,h,fun k' h'=>h'⟩
 |
  (ty,x)::r=>fun k h=>by
  simp only [getXs] at h ⊢;obtain ⟨a,b,h,h1⟩:=wu _ h;obtain ⟨c,d,h,h2⟩:=xcl _ h;exact ⟨_,_,h,fun k' h'=>h1 _ (h2 _ h')⟩
theorem xyi {b:Bool} {op:BinOp} {x y:Value}:D1 (binV b op x y):=fun k h=>by
 unfold binV at h ⊢
 split at h
 · split at h
   all_goals first
    | exact h.elim
    | (obtain ⟨c,h1,h2⟩:=h; exact ⟨_,h2,fun k' h'=>⟨c,h1,h'⟩⟩)
    | (obtain ⟨h0,c,h1,h2⟩:=h; exact ⟨_,h2,fun k' h'=>⟨h0,c,h1,h'⟩⟩)
    | exact ⟨_,h,fun k' h'=>h'⟩
 · split at h
   all_goals first
    | exact h.elim
    | exact ⟨_,h,fun k' h'=>h'⟩
 · split at h
   all_goals first
    | exact h.elim
    | exact ⟨_,h,fun k' h'=>h'⟩
    | exact ⟨_,h.2,fun k' h'=>⟨h.1,h'⟩⟩
 · exact h.elim
theorem xy6 {op:UnOp} {x:Value}:D1 (unV op x):=fun k h=>by
 unfold unV at h ⊢
 split at h
 · obtain ⟨c,h1,h2⟩:=h; exact ⟨_,h2,fun k' h'=>⟨c,h1,h'⟩⟩
 · exact ⟨_,h,fun k' h'=>h'⟩
 · exact h.elim
theorem qw:∀ {ns:List Nat},D1 (alive st ns)
 | []=>fun k h=>⟨_,h,fun k' h'=>h'⟩
 | n::r=>fun k h=>by
   simp only [alive] at h ⊢
   cases hl:lk st.s n with
   | none=>rw [hl] at h; exact h.elim
   | some o=>rw [hl] at h; obtain ⟨x,h1,h2⟩:=qw _ h; exact ⟨_,h1,fun k' h'=>h2 _ h'⟩
theorem kn:∀ {cs:List AV},D1 (liveC st cs)
 | []=>fun k h=>⟨_,h,fun k' h'=>h'⟩
 | c::r=>fun k h=>by
   cases c with
   | prim v=>simp only [liveC] at h ⊢; exact kn _ h
   | emp v=>simp only [liveC] at h ⊢; exact kn _ h
   | fn f c=>simp only [liveC] at h ⊢; exact kn _ h
   | fr ns t rows=>simp only [liveC] at h ⊢; obtain ⟨a,h,h1⟩:=qw _ h; obtain ⟨b,h,h2⟩:=kn _ h; exact ⟨_,h,fun k' h'=>h1 _ (h2 _ h')⟩
   | fp ns row o=>simp only [liveC] at h ⊢; obtain ⟨a,h,h1⟩:=qw _ h; obtain ⟨b,h,h2⟩:=kn _ h; exact ⟨_,h,fun k' h'=>h1 _ (h2 _ h')⟩
   | ptr n i o=>simp only [liveC] at h ⊢; obtain ⟨a,h,h1⟩:=qw _ h; obtain ⟨b,h,h2⟩:=kn _ h; exact ⟨_,h,fun k' h'=>h1 _ (h2 _ h')⟩
   | ref n =>
     simp only [liveC] at h ⊢
     cases hl:lk st.s n with
     | none=>rw [hl] at h; exact h.elim
     | some o =>
       cases o with
       | box row=>rw [hl] at h; exact h.elim
       | arr t rows p=>rw [hl] at h; obtain ⟨x,h1,h2⟩:=kn _ h; exact ⟨_,h1,fun k' h'=>h2 _ h'⟩
   | _=>simp only [liveC] at h
theorem xyj {v:TV}:D1 (oneC st v):=fun k h=>by
 cases v with
 | one a=>exact kn _ h
 | agg cs=>exact ⟨_,h,fun k' h'=>h'⟩
 | tup vs=>exact h.elim
theorem xcm {v:AV}:D3 (lend1 st v):=fun k h=>by
 cases v with
 | prim v=>exact ⟨_,_,_,h,fun k' h'=>h'⟩
 | emp t=>exact ⟨_,_,_,h,fun k' h'=>h'⟩
 | fr ns t rows=>simp only [lend1] at h ⊢; obtain ⟨a,h,h1⟩:=qw _ h; exact ⟨_,_,_,h,fun k' h'=>h1 _ h'⟩
 | fp ns row o=>simp only [lend1] at h ⊢; obtain ⟨a,h,h1⟩:=qw _ h; exact ⟨_,_,_,h,fun k' h'=>h1 _ h'⟩
 | ref n =>
   simp only [lend1] at h ⊢
   cases hl:lk st.s n with
   | none=>rw [hl] at h; exact h.elim
   | some o =>
     cases o with
     | box row=>rw [hl] at h; exact h.elim
     | arr t rows p=>rw [hl] at h; exact ⟨_,_,_,h,fun k' h'=>h'⟩
 | _=>exact h.elim
theorem xil:∀ {vs:List AV},D3 (lends st vs)
 | []=>fun k h=>⟨_,_,_,h,fun k' h'=>h'⟩
 | v::r=>fun k h=>by
   simp only [lends] at h ⊢;obtain ⟨a,b,c,h,h1⟩:=xcm _ h;obtain ⟨a',b',c',h,h2⟩:=xil _ h;exact ⟨_,_,_,h,fun k' h'=>h1 _ (h2 _ h')⟩
theorem xqv {v:AV}:D3 (lendCap0 st v):=fun k h=>by
 unfold lendCap0 at h ⊢
 split at h
 · rename_i n o
   cases hl:lk st.s n with
   | none=>rw [hl] at h; exact h.elim
   | some ob =>
     cases ob with
     | arr t rows p=>rw [hl] at h; exact h.elim
     | box row =>
       rw [hl] at h;obtain ⟨a,b,c,h,h1⟩:=xil _ h;exact ⟨_,_,_,h,fun k' h'=>h1 _ h'⟩
 · rename_i hne;obtain ⟨a,b,c,h,h1⟩:=xcm _ h;exact ⟨_,_,_,h,fun k' h'=>h1 _ h'⟩
theorem xf1:∀ {vs:List AV},D3 (lendCaps0 st vs)
 | []=>fun k h=>⟨_,_,_,h,fun k' h'=>h'⟩
 | v::r=>fun k h=>by
   simp only [lendCaps0] at h ⊢;obtain ⟨a,b,c,h,h1⟩:=xqv _ h;obtain ⟨a',b',c',h,h2⟩:=xf1 _ h;exact ⟨_,_,_,h,fun k' h'=>h1 _ (h2 _ h')⟩
theorem xim:∀ {vs:List AV},D3 (lendB st vs)
 | [],k,h=>⟨_,_,_,h,fun k' h'=>h'⟩
 | v::r,k,h=>by
   cases v with
   | fn f caps =>
     simp only [lendB] at h ⊢;obtain ⟨a,b,c,h,h1⟩:=xf1 _ h;obtain ⟨a',b',c',h,h2⟩:=xim _ h;exact ⟨_,_,_,h,fun k' h'=>h1 _ (h2 _ h')⟩
   | _ =>
     simp only [lendB] at h ⊢;obtain ⟨a,b,c,h,h1⟩:=xcm _ h;obtain ⟨a',b',c',h,h2⟩:=xim _ h;exact ⟨_,_,_,h,fun k' h'=>h1 _ (h2 _ h')⟩
theorem xjb {v:AV}:D3 (lendCap st v):=fun k h=>by
 unfold lendCap at h ⊢
 split at h
 · rename_i n o
   cases hl:lk st.s n with
   | none=>rw [hl] at h; exact h.elim
   | some ob =>
     cases ob with
     | arr t rows p=>rw [hl] at h; exact h.elim
     | box row =>
       rw [hl] at h;obtain ⟨a,b,c,h,h1⟩:=xim _ h;exact ⟨_,_,_,h,fun k' h'=>h1 _ h'⟩
 · rename_i hne;obtain ⟨a,b,c,h,h1⟩:=xcm _ h;exact ⟨_,_,_,h,fun k' h'=>h1 _ h'⟩
theorem xhn:∀ {vs:List AV},D3 (lendCaps st vs)
 | []=>fun k h=>⟨_,_,_,h,fun k' h'=>h'⟩
 | v::r=>fun k h=>by
   simp only [lendCaps] at h ⊢;obtain ⟨a,b,c,h,h1⟩:=xjb _ h;obtain ⟨a',b',c',h,h2⟩:=xhn _ h;exact ⟨_,_,_,h,fun k' h'=>h1 _ (h2 _ h')⟩
theorem xxg {v:TV}:D3 (lendV st v):=fun k h=>by
 unfold lendV at h ⊢
 split at h
 · obtain ⟨a,b,c,h,h1⟩:=xhn _ h; exact ⟨_,_,_,h,fun k' h'=>h1 _ h'⟩
 · obtain ⟨a,b,c,h,h1⟩:=xjb _ h; exact ⟨_,_,_,h,fun k' h'=>h1 _ h'⟩
 · obtain ⟨a,b,c,h,h1⟩:=xcm _ h; exact ⟨_,_,_,h,fun k' h'=>h1 _ h'⟩
 · obtain ⟨a,b,c,h,h1⟩:=xil _ h; exact ⟨_,_,_,h,fun k' h'=>h1 _ h'⟩
 · exact h.elim
theorem yt:∀ {cs:List AV} {del:List Nat},D3 (rowCells st cs del)
 | [],del=>fun k h=>⟨_,_,_,h,fun k' h'=>h'⟩
 | c::r,del=>fun k h=>by
   cases c with
   | prim v=>simp only [rowCells] at h ⊢; obtain ⟨a,b,c,h,h1⟩:=yt _ h; exact ⟨_,_,_,h,fun k' h'=>h1 _ h'⟩
   | emp v=>simp only [rowCells] at h ⊢; obtain ⟨a,b,c,h,h1⟩:=yt _ h; exact ⟨_,_,_,h,fun k' h'=>h1 _ h'⟩
   | fr ns t rows =>
     cases ns with
     | nil=>simp only [rowCells] at h ⊢; obtain ⟨a,b,c,h,h1⟩:=yt _ h; exact ⟨_,_,_,h,fun k' h'=>h1 _ h'⟩
     | cons n ns=>simp only [rowCells] at h
   | ref m =>
     simp only [rowCells] at h ⊢
     split at h
     · rename_i hm hl; obtain ⟨a,b,c,h,h1⟩:=yt _ h; exact ⟨_,_,_,h,fun k' h'=>h1 _ h'⟩
     · exact h.elim
   | _=>simp only [rowCells] at h
theorem xla {n:Nat}:∀ {css:List (List AV)} {del:List Nat},D3 (rowsOf st n css del)
 | [],del=>fun k h=>⟨_,_,_,h,fun k' h'=>h'⟩
 | cs::r,del=>fun k h=>by
   simp only [rowsOf] at h ⊢
   split at h
   · obtain ⟨a,b,c,h,h1⟩:=yt _ h;obtain ⟨a',b',c',h,h2⟩:=xla _ h;exact ⟨_,_,_,h,fun k' h'=>h1 _ (h2 _ h')⟩
   · exact h.elim
theorem xcn:∀ {cs:List AV} {del:List Nat},D4 (ioBox st cs del)
 | [],del=>fun k h=>⟨_,_,_,_,h,fun k' h'=>h'⟩
 | c::r,del=>fun k h=>by
   cases c with
   | na=>simp only [ioBox] at h ⊢; obtain ⟨a,b,c,d,h,h1⟩:=xcn _ h; exact ⟨_,_,_,_,h,fun k' h'=>h1 _ h'⟩
   | prim v=>simp only [ioBox] at h ⊢; obtain ⟨a,b,c,d,h,h1⟩:=xcn _ h; exact ⟨_,_,_,_,h,fun k' h'=>h1 _ h'⟩
   | fr ns t rows=>simp only [ioBox] at h ⊢; obtain ⟨e,h,h0⟩:=qw _ h; obtain ⟨a,b,c,d,h,h1⟩:=xcn _ h; exact ⟨_,_,_,_,h,fun k' h'=>h0 _ (h1 _ h')⟩
   | ref m =>
     simp only [ioBox] at h ⊢
     split at h
     · obtain ⟨a,b,c,d,h,h1⟩:=xcn _ h; exact ⟨_,_,_,_,h,fun k' h'=>h1 _ h'⟩
     · exact h.elim
   | _=>simp only [ioBox] at h
theorem xco:∀ {ms:List Mode} {vs:List TV} {del:List Nat},D4 (gath st ms vs del)
 | ms,[],del=>fun k h=>⟨_,_,_,_,by simpa only [gath] using h,fun k' h'=>by simpa only [gath] using h'⟩
 | ms,v::r,del=>fun k h=>by
   simp only [gath] at h ⊢
   split at h
   · rename_i a hm;obtain ⟨a,b,c,h,h1⟩:=yt _ h; obtain ⟨a',b',c',d',h,h2⟩:=xco _ h; exact ⟨_,_,_,_,h,fun k' h'=>by first|exact h1 _ (h2 _ h')|(rw [hm]; exact h1 _ (h2 _ h'))⟩
   · rename_i a hm;obtain ⟨a,b,c,h,h1⟩:=yt _ h; obtain ⟨a',b',c',d',h,h2⟩:=xco _ h; exact ⟨_,_,_,_,h,fun k' h'=>by first|exact h1 _ (h2 _ h')|(rw [hm]; exact h1 _ (h2 _ h'))⟩
   · rename_i a hm;obtain ⟨a,b,c,h,h1⟩:=xxg _ h; obtain ⟨a',b',c',d',h,h2⟩:=xco _ h; exact ⟨_,_,_,_,h,fun k' h'=>by first|exact h1 _ (h2 _ h')|(rw [hm]; exact h1 _ (h2 _ h'))⟩
   · exact h.elim
theorem xa2 {kp:Bool} {lent:List Nat}:∀ {cs:List AV},D0 (keptOk kp lent cs)
 | []=>fun k h=>⟨h,fun k' h'=>h'⟩
 | a::r=>fun k h=>by
   cases a<;>simp only [keptOk] at h ⊢
   case sl t rows =>
    split at h
    · obtain ⟨h1,h2⟩:=xa2 _ h.2; exact ⟨h1,fun k' h'=>⟨h.1,h2 k' h'⟩⟩
    · rename_i hx;obtain ⟨h1,h2⟩:=xa2 _ h; exact ⟨h1,fun k' h'=>h2 k' h'⟩
   all_goals exact xa2 _ h
theorem xin {kp:Bool} {lent:List Nat} {v:TV}:D0 (keptV kp lent v):=fun k h=>by
 unfold keptV at h ⊢
 split at h<;>exact xa2 _ h
theorem wx {lent:List Nat}:∀ {cs:List AV},D0 (arrBack lent cs)
 | []=>fun k h=>⟨h,fun k' h'=>h'⟩
 | a::r=>fun k h=>by
   cases a with
   | prim v=>simp only [arrBack] at h ⊢; exact wx _ h
   | sl t rows =>
     cases lent with
     | nil=>simp only [arrBack] at h ⊢; exact wx _ h
     | cons m ms=>simp only [arrBack] at h ⊢; obtain ⟨h1,h2⟩:=wx _ h.2; exact ⟨h1,fun k' h'=>⟨h.1,h2 k' h'⟩⟩
   | fr ns t rows =>
     cases ns with
     | nil =>
       cases lent with
       | nil=>simp only [arrBack] at h ⊢; exact wx _ h
       | cons m ms=>simp only [arrBack] at h
     | cons m ms=>simp only [arrBack] at h
   | _=>simp only [arrBack] at h
theorem xo9:∀ {vs:List TV},D1 (capsC vs)
 | []=>fun k h=>⟨_,h,fun k' h'=>h'⟩
 | v::r=>fun k h=>by
   unfold capsC at h ⊢
   split at h
   · rename_i heq; cases heq
   · rename_i heq;cases heq;obtain ⟨a,h,h1⟩:=xo9 _ h; exact ⟨_,h,fun k' h'=>h1 _ h'⟩
   · exact h.elim
end
end Go.AM
end
section
namespace Go.AM
open Go
section
variable {E:Env} {st:St} {uid:Nat}
theorem xtb {f ty lo hi:Nat} {rt:List (Nat × TV)} {ms:List Mode} {a:TV} {r:List TV}:D1 (callIoP E st uid f ty lo hi rt ms a r):=fun k h=>by
 unfold callIoP at h ⊢
 split at h
 · replace h:=xyh _ h;obtain ⟨ti,h,h0⟩:=h
   split at h
   · rename_i row hob
     split at h
     · rename_i hle;replace h:=xcn _ h;obtain ⟨cs,ns,ro,d,h,h1⟩:=h;replace h:=xco _ h;obtain ⟨ins,lent,ro',d',h,h2⟩:=h
       split at h
       · rename_i hh;obtain ⟨bs,res,hs,h⟩:=h;replace h:=xa2 _ h;obtain ⟨h,h3⟩:=h;replace h:=xin _ h;obtain ⟨h,h4⟩:=h;simp only [xq] at h
         split at h
         · rename_i b1 b2 b3;rw [zp,x5] at h;refine ⟨_,h,fun k' h'=>h0 _ ?_⟩;simp only [hle];refine h1 _ ?_;refine h2 _ ?_;simp only [hh];refine ⟨bs,res,hs,h3 _ (h4 _ ?_)⟩;simp only [xq,b1,b2,b3,zp,x5];exact h'
         · exact h.elim
       · exact h.elim
     · exact h.elim
   · rename_i t rows p hob;obtain ⟨row,hrow,h⟩:=h
     split at h
     · rename_i hle hC;replace h:=xco _ h;obtain ⟨ins,lent,ro',d',h,h2⟩:=h
       split at h
       · rename_i hh;obtain ⟨bs,res,hs,h⟩:=h;replace h:=wx _ h;obtain ⟨h,h3⟩:=h;replace h:=xin _ h;obtain ⟨h,h4⟩:=h;simp only at h
         split at h
         · rename_i b3;rw [xq,zp,x5] at h;refine ⟨_,h,fun k' h'=>h0 _ ?_⟩;refine ⟨row,hrow,?_⟩;simp only [hle,hC];refine h2 _ ?_;simp only [hh];refine ⟨bs,res,hs,h3 _ (h4 _ ?_)⟩;simp only [xq,b3,zp,x5];exact h'
         · exact h.elim
       · exact h.elim
     · exact h.elim
   · exact h.elim
 · exact h.elim
theorem xio {f ty:Nat} {rt:List (Nat × TV)} {args:List TV}:D1 (callP E st uid f ty rt args):=fun k h=>by
 unfold callP at h ⊢
 split at h
 · exact xtb _ h
 · obtain ⟨ins,lent,ro',d',h,h2⟩:=xco _ h
   split at h
   · rename_i hh;obtain ⟨res,hs,h⟩:=h;obtain ⟨h,h4⟩:=xin _ h;simp only at h
     split at h
     · rename_i b3;rw [zp,x5] at h;refine ⟨_,h,fun k' h'=>h2 _ ?_⟩;simp only [hh];refine ⟨res,hs,h4 _ ?_⟩;simp only [b3,zp,x5];exact h'
     · exact h.elim
   · exact h.elim
theorem xlb {fs:List (Nat × Nat)}:∀ {l:List (Nat × Operand)} {cs:List AV},D3 (buildC E st fs l cs)
 | [],cs=>fun k h=>⟨_,_,_,h,fun k' h'=>h'⟩
 |
  (i,x)::r,cs=>fun k h=>by
  simp only [buildC] at h ⊢
  split at h
  · rename_i off ft hf;obtain ⟨ti,h,h1⟩:=xc7 _ h;obtain ⟨rt,v,h,h2⟩:=wu _ h
    split at h
    · rename_i g1 g2;obtain ⟨ro,h,h3⟩:=xyj _ h;rw [xq] at h;obtain ⟨a,b,c,h,h4⟩:=xlb _ h;refine ⟨_,_,_,h,fun k' h'=>h1 _ (h2 _ ?_)⟩;simp only [g1,g2];refine h3 _ ?_;rw [xq];exact h4 _ h'
    · exact h.elim
  · exact h.elim
theorem xy7 {o:Oper}:D1 (opP E uid st o):=fun k h=>by
 have hx:∀ {ty:Nat} {x:Operand} {F:List (Nat × TV)->TV->(Pk->Prop)->Prop},(∀ rt v,D1 (F rt v))->D1 fun k=>getX E st ty x fun rt v=>F rt v k:=fun hF k h=>by
  obtain ⟨rt,v,h,h1⟩:=wu _ h;obtain ⟨pk,h,h2⟩:=hF rt v _ h;exact ⟨pk,h,fun k' h'=>h1 _ (h2 _ h')⟩
 have hi:∀ {t:Nat} {F:TI->(Pk->Prop)->Prop},(∀ ti,D1 (F ti))->D1 fun k=>tyI E t fun ti=>F ti k:=fun hF k h=>by
  obtain ⟨ti,h,h1⟩:=xc7 _ h;obtain ⟨pk,h,h2⟩:=hF ti _ h;exact ⟨pk,h,fun k' h'=>h1 _ (h2 _ h')⟩
 have he:∀ {t:Nat} {F:Nat->(Pk->Prop)->Prop},(∀ ti,D1 (F ti))->D1 fun k=>tyE E t fun ti=>F ti k:=fun hF k h=>by
  obtain ⟨ti,h,h1⟩:=xhm _ h;obtain ⟨pk,h,h2⟩:=hF ti _ h;exact ⟨pk,h,fun k' h'=>h1 _ (h2 _ h')⟩
 have ha:∀ {ns:List Nat} {F:List (Nat × Ob)->(Pk->Prop)->Prop},(∀ ro,D1 (F ro))->D1 fun k=>alive st ns fun ro=>F ro k:=fun hF k h=>by
  obtain ⟨ti,h,h1⟩:=qw _ h;obtain ⟨pk,h,h2⟩:=hF ti _ h;exact ⟨pk,h,fun k' h'=>h1 _ (h2 _ h')⟩
 have hl:∀ {cs:List AV} {F:List (Nat × Ob)->(Pk->Prop)->Prop},(∀ ro,D1 (F ro))->D1 fun k=>liveC st cs fun ro=>F ro k:=fun hF k h=>by
  obtain ⟨ti,h,h1⟩:=kn _ h;obtain ⟨pk,h,h2⟩:=hF ti _ h;exact ⟨pk,h,fun k' h'=>h1 _ (h2 _ h')⟩
 have hr:∀ {cs:List AV} {del:List Nat} {F:List AV->List (Nat × Ob)->List Nat->(Pk->Prop)->Prop},(∀ a b c,D1 (F a b c))->D1 fun k=>rowCells st cs del fun a b c=>F a b c k:=fun hF k h=>by
  obtain ⟨a,b,c,h,h1⟩:=yt _ h;obtain ⟨pk,h,h2⟩:=hF a b c _ h;exact ⟨pk,h,fun k' h'=>h1 _ (h2 _ h')⟩
 have hp:∀ pk:Pk,D1 fun k:Pk->Prop=>k pk:=fun pk k h=>⟨pk,h,fun k' h'=>h'⟩;have h0:D1 fun _:Pk->Prop=>False:=fun k h=>h.elim;have hex:∀ {α:Type} {F:α->(Pk->Prop)->Prop},(∀ c,D1 (F c))->D1 fun k=>∃ c,F c k:=fun hF k h=>by
  obtain ⟨c,h⟩:=h;obtain ⟨pk,h,h2⟩:=hF c _ h;exact ⟨pk,h,fun k' h'=>⟨c,h2 _ h'⟩⟩
 have han:∀ {p:Prop} {F:(Pk->Prop)->Prop},D1 F->D1 fun k=>p/\F k:=fun hF k h=>by
  obtain ⟨c,h⟩:=h;obtain ⟨pk,h,h2⟩:=hF _ h;exact ⟨pk,h,fun k' h'=>⟨c,h2 _ h'⟩⟩
 have hor:∀ {F G:(Pk->Prop)->Prop},D1 F->D1 G->D1 fun k=>F k\/G k:=fun hF hG k h=>by
  rcases h with h|h
  · obtain ⟨pk,h,h2⟩:=hF _ h;exact ⟨pk,h,fun k' h'=>.inl (h2 _ h')⟩
  · obtain ⟨pk,h,h2⟩:=hG _ h;exact ⟨pk,h,fun k' h'=>.inr (h2 _ h')⟩
 have hxs:∀ {l:List (Nat × Operand)} {F:List (Nat × TV)->List TV->(Pk->Prop)->Prop},(∀ rt v,D1 (F rt v))->D1 fun k=>getXs E st l fun rt v=>F rt v k:=fun hF k h=>by
  obtain ⟨rt,v,h,h1⟩:=xcl _ h;obtain ⟨pk,h,h2⟩:=hF rt v _ h;exact ⟨pk,h,fun k' h'=>h1 _ (h2 _ h')⟩
 have hro:∀ {n:Nat} {css:List (List AV)} {del:List Nat} {F:List (List AV)->List (Nat × Ob)->List Nat->(Pk->Prop)->Prop},(∀ a b c,D1 (F a b c))->D1 fun k=>rowsOf st n css del fun a b c=>F a b c k:=fun hF k h=>by
  obtain ⟨a,b,c,h,h1⟩:=xla _ h;obtain ⟨pk,h,h2⟩:=hF a b c _ h;exact ⟨pk,h,fun k' h'=>h1 _ (h2 _ h')⟩
 have hcall:∀ {f ty:Nat} {rt:List (Nat × TV)} {args:List TV},D1 fun k=>callP E st uid f ty rt args k:=xio;have key:D1 (opP E uid st o):=by
  show D1 fun k=>opP E uid st o k
  cases hop:o.op with
  | move x=>simp only [opP,hop]; exact hx fun rt v=>hp _
  | assign x =>
    simp only [opP,hop];refine hx fun rt v=>?_
    cases v with
    | one a=>cases a<;>exact hp _
    | _=>exact hp _
  | pick c a b =>
    simp only [opP,hop];refine hx fun rt v=>?_
    cases v with
    | one a =>
      cases a with
      | prim w =>
        cases w with
        | bool b=>cases b<;>exact hx fun rt v=>hp _
        | _=>exact h0
      | _=>exact h0
    | _=>exact h0
  | alloc e=>simp only [opP,hop,xq,x5]; exact hi fun ti=>hp _
  | box e x =>
    simp only [opP,hop,xq,x5];refine hx fun rt v=>?_
    cases v with
    | tup vs=>exact h0
    | _ =>
      refine hi fun ti=>?_;generalize lenIs _ ti.n=q;cases q
      · exact h0
      · exact hl fun ro=>hp _
  | build t parts =>
    simp only [opP,hop]
    cases lk E.T t with
    | none=>exact h0
    | some ti =>
      obtain ⟨d,n,z⟩:=ti
      cases d with
      | strct fs =>
        intro k h;obtain ⟨a,b,c,h,h1⟩:=xlb _ h;exact ⟨_,h,fun k' h'=>h1 _ h'⟩
      | _=>exact h0
  | buildSlice t n parts =>
    simp only [opP,hop];refine he fun e=>hi fun ti=>?_;generalize (Nat.beq parts.size n && Nat.ble n 4096)=q1;generalize partsB 0 parts.toList=q2
    cases q1<;>cases q2<;>first|exact h0|exact hxs fun rt vs=>hro fun a b c=>hp _
  | load t x =>
    simp only [opP,hop,xq];refine hi fun ti=>hx fun rt v=>?_
    cases v with
    | one a =>
      cases a with
      | ptr n i off =>
        simp only
        cases lk st.s n with
        | none=>exact h0
        | some ob =>
          cases ob with
          | box row =>
            simp only;generalize leLen _ row=q1;generalize allB noNa _=q2
            cases q1<;>cases i<;>cases q2<;>first|exact h0|exact hp _
          | arr te rows p =>
            simp only;refine hex fun row=>han ?_;generalize leLen _ row=q1
            cases q1<;>first|exact h0|exact hp _
      | fp ns row off =>
        simp only;generalize leLen _ row=q1
        cases q1<;>first|exact h0|exact ha fun ro=>hp _
      | _=>exact h0
    | _=>exact h0
  | store t x w =>
    simp only [opP,hop,xq,x5];refine hi fun ti=>hx fun rt a=>hx fun rt' v=>?_;generalize lenIs (tvCells v) ti.n=q
    cases a with
    | one a =>
      cases a with
      | ptr n i off =>
        cases q with
        | false=>exact h0
        | true =>
          simp only
          cases lk st.s n with
          | none=>exact h0
          | some ob =>
            cases ob with
            | box row =>
              simp only;generalize leLen _ row=q1;generalize allB noNa _=q2
              cases q1<;>cases i<;>cases q2<;>first|exact h0|skip
              refine hl fun ro=>?_;generalize allB (keepsB n) _=q3
              cases q3<;>first|exact h0|exact hp _
            | arr te rows p =>
              simp only;refine hex fun row=>han ?_;generalize leLen _ row=q1
              cases q1<;>first|exact h0|exact hr fun a b c=>hp _
      | _=>exact h0
    | _=>exact h0
  | nilCheck x =>
    simp only [opP,hop];refine hx fun rt v=>?_
    cases v with
    | one a =>
      cases a with
      | ptr n i off =>
        simp only
        cases lk st.s n with
        | none=>exact h0
        | some ob=>exact hp _
      | fp ns row off=>exact ha fun ro=>hp _
      | _=>exact h0
    | _=>exact h0
  | binOp op t x y ty =>
    simp only [opP,hop];refine hx fun rt a=>hx fun rt' b=>?_
    cases a with
    | one a =>
      cases a with
      | prim a =>
        cases b with
        | one b =>
          cases b with
          | prim b =>
            refine hi fun ti=>?_;intro k h;obtain ⟨c,h,h1⟩:=xyi _ h;exact ⟨_,h,fun k' h'=>h1 _ h'⟩
          | _=>exact h0
        | _=>exact h0
      | _=>exact h0
    | _=>exact h0
  | unOp op t x =>
    simp only [opP,hop];refine hx fun rt a=>?_
    cases a with
    | one a =>
      cases a with
      | prim a =>
        intro k h;obtain ⟨c,h,h1⟩:=xy6 _ h;exact ⟨_,h,fun k' h'=>h1 _ h'⟩
      | _=>exact h0
    | _=>exact h0
  | convert src dst x =>
    simp only [opP,hop];refine hi fun _=>hx fun rt a=>hi fun ti=>?_;intro k h
    split at h
    · obtain ⟨c,h1,h⟩:=h; exact ⟨_,h,fun k' h'=>⟨c,h1,h'⟩⟩
    · exact ⟨_,h,fun k' h'=>h'⟩
    · rename_i n h1 h2
      have key:D1 fun k:Pk->Prop=>(match lk st.s n with
       | some (.arr t rows p)=>tyE E src fun e=>tyI E e fun ei=>match ei.d,ei.z with
         | .sc,[.prim (.int .u8 _)]=>∃ l:List UInt8,rows=bytesRows l/\k ⟨rt,[(n,.arr t rows p)],.one (.prim (.string ⟨l.toArray⟩)),[],[]⟩
         | _,_=>False
       | _=>False):=by
       cases lk st.s n with
       | none=>exact h0
       | some ob =>
         cases ob with
         | box row=>exact h0
         | arr t rows p =>
           simp only;refine he fun e=>hi fun ei=>?_;intro k h
           split at h
           · obtain ⟨l,h1,h⟩:=h; exact ⟨_,h,fun k' h'=>⟨l,h1,h'⟩⟩
           · exact h.elim
      exact key k h
    · exact h.elim
  | makeFunc fn first caps =>
    simp only [opP,hop];intro k h
    split at h
    · obtain ⟨rt,vs,h,h1⟩:=xcl _ h;obtain ⟨cs,h,h2⟩:=xo9 _ h;exact ⟨_,h,fun k' h'=>h1 _ (h2 _ h')⟩
    · exact h.elim
  | makeSlice t l c =>
    simp only [opP,hop];refine he fun e=>hi fun ti=>hx fun rt a=>hx fun rt' b=>?_;intro k h
    split at h
    · obtain ⟨h1,h2,h3,h⟩:=h;obtain ⟨a,b,c,h,h4⟩:=yt _ h
      split at h
      · exact ⟨_,h,fun k' h'=>⟨h1,h2,h3,h4 _ h'⟩⟩
      · exact h.elim
    · exact h.elim
  | slice t x lo hi' mx =>
    simp only [opP,hop]
    cases mx with
    | some mo =>
      cases hi' with
      | none=>exact h0
      | some hi' =>
        simp only;refine hx fun rt v=>hx fun rt1 a=>hx fun rt2 b=>hx fun rt3 c=>?_
        cases v with
        | one v =>
          cases v with
          | fr ns te rows =>
            simp only;refine he fun e=>hi fun _=>ha fun ro=>?_;generalize Nat.beq te e=q;intro k h
            split at h
            · obtain ⟨g1,g2,g3,g4,h⟩:=h; exact ⟨_,h,fun k' h'=>⟨g1,g2,g3,g4,h'⟩⟩
            · exact h.elim
          | _=>exact h0
        | _=>exact h0
    | none =>
      simp only;refine hx fun rt v=>hx fun rt1 a=>?_
      cases a with
      | one a =>
        cases a with
        | prim a =>
          cases a with
          | int j l =>
            simp only
            cases v with
            | one v =>
              cases v with
              | prim v =>
                cases v with
                | string s =>
                  simp only;refine hi fun ti=>?_;obtain ⟨d,n,z⟩:=ti;intro k h
                  split at h
                  · obtain ⟨rt2,b,h,h1⟩:=wu _ h
                    split at h
                    · obtain ⟨g1,g2,g3,h⟩:=h; exact ⟨_,h,fun k' h'=>h1 _ ⟨g1,g2,g3,h'⟩⟩
                    · exact h.elim
                  · exact h.elim
                | _=>exact h0
              | fr ns te rows =>
                simp only;refine he fun e=>hi fun _=>ha fun ro=>hx fun rt2 b=>?_;generalize Nat.beq te e=q;intro k h
                split at h
                · obtain ⟨g1,g2,g3,h⟩:=h; exact ⟨_,h,fun k' h'=>⟨g1,g2,g3,h'⟩⟩
                · exact h.elim
              | ref n =>
                simp only
                cases lk st.s n with
                | none=>exact h0
                | some ob =>
                  cases ob with
                  | box row=>exact h0
                  | arr te rows p =>
                    simp only;refine he fun e=>hi fun _=>hx fun rt2 b=>?_;generalize Nat.beq te e=q;generalize memN uid E.cut=q2;intro k h
                    split at h
                    · obtain ⟨g1,g2,g3,h⟩:=h
                      split at h
                      · obtain ⟨g4,h⟩:=h; exact ⟨_,h,fun k' h'=>⟨g1,g2,g3,g4,h'⟩⟩
                      · exact ⟨_,h,fun k' h'=>⟨g1,g2,g3,h'⟩⟩
                    · exact h.elim
              | _=>exact h0
            | _=>exact h0
          | _=>exact h0
        | _=>exact h0
      | _=>exact h0
  | fieldAddr sT x f =>
    simp only [opP,hop];intro k h
    split at h
    · split at h
      · obtain ⟨rt,v,h,h1⟩:=wu _ h
        split at h
        · rename_i n i off
          cases hl:lk st.s n with
          | none=>rw [hl] at h; exact h.elim
          | some ob=>rw [hl] at h; exact ⟨_,h,fun k' h'=>h1 _ (by simp only [hl]; exact h')⟩
        · obtain ⟨ro,h,h2⟩:=qw _ h; exact ⟨_,h,fun k' h'=>h1 _ (h2 _ h')⟩
        · exact h.elim
      · exact h.elim
    · exact h.elim
  | field sT x f =>
    simp only [opP,hop,xq];intro k h
    split at h
    · split at h
      · obtain ⟨ti,h,h0'⟩:=xc7 _ h;obtain ⟨rt,v,h,h1⟩:=wu _ h
        split at h
        · split at h
          · rename_i hle;exact ⟨_,h,fun k' h'=>h0' _ (h1 _ (by simp only [hle]; exact h'))⟩
          · exact h.elim
        · exact h.elim
      · exact h.elim
    · exact h.elim
  | indexAddr t x ix =>
    simp only [opP,hop];refine hx fun rt v=>hx fun rt' w=>?_
    cases w with
    | one w =>
      cases w with
      | prim w =>
        cases w with
        | int j i =>
          simp only;refine he fun e=>hi fun _=>?_
          cases v with
          | one v =>
            cases v with
            | fr ns te rows =>
              simp only;generalize Nat.beq te e=q;cases q
              · exact h0
              · exact ha fun ro=>han (hex fun row=>han (hp _))
            | ref n =>
              simp only
              cases lk st.s n with
              | none=>exact h0
              | some ob =>
                cases ob with
                | box row=>exact h0
                | arr te rows p =>
                  simp only;generalize Nat.beq te e=q;cases q
                  · exact h0
                  · exact han (han (hp _))
            | _=>exact h0
          | _=>exact h0
        | _=>exact h0
      | _=>exact h0
    | _=>exact h0
  | index t x ix =>
    simp only [opP,hop];refine hx fun rt v=>hx fun rt' w=>?_;intro k h
    split at h
    · obtain ⟨ti,h,h0'⟩:=xc7 _ h;obtain ⟨d,n,z⟩:=ti
      split at h
      · rename_i hd hz;simp only at hd hz;subst hd; subst hz;obtain ⟨g1,b,g2,h⟩:=h; exact ⟨_,h,fun k' h'=>h0' _ ⟨g1,b,g2,h'⟩⟩
      · exact h.elim
    · exact h.elim
  | extract x i =>
    simp only [opP,hop];refine hx fun rt v=>?_
    cases v with
    | tup vs =>
      simp only
      cases vs[i]? with
      | none=>exact h0
      | some p =>
        obtain ⟨a,cs⟩:=p;simp only;generalize (a || lenIs cs 1)=q;cases q
        · exact h0
        · exact hp _
    | _=>exact h0
  | call c =>
    simp only [opP,hop];intro k h
    split at h
    ·
      split at h
      · obtain ⟨rt,v,h,h1⟩:=wu _ h
        split at h
        · obtain ⟨ti,h,h2⟩:=xc7 _ h;obtain ⟨d,n,z⟩:=ti
          split at h
          · rename_i hd hz;simp only at hd hz;subst hd; subst hz;exact ⟨_,h,fun k' h'=>h1 _ (h2 _ h')⟩
          · exact h.elim
        · obtain ⟨e,h,h2⟩:=xhm _ h;obtain ⟨ro,h,h3⟩:=qw _ h;exact ⟨_,h,fun k' h'=>h1 _ (h2 _ (h3 _ h'))⟩
        · obtain ⟨e,h,h2⟩:=xhm _ h;exact ⟨_,h,fun k' h'=>h1 _ (h2 _ h')⟩
        · rename_i n;obtain ⟨e,h,h2⟩:=xhm _ h
          cases hl':lk st.s n with
          | none=>rw [hl'] at h; exact h.elim
          | some ob =>
            cases ob with
            | box row=>rw [hl'] at h; exact h.elim
            | arr te rows p=>rw [hl'] at h; exact ⟨_,h,fun k' h'=>h1 _ (h2 _ (by simp only [hl']; exact h'))⟩
        · exact h.elim
      · exact h.elim
    ·
      split at h
      · rename_i x y t t' _ _
        have key:D1 fun k:Pk->Prop=>(getX E st t x fun rt v=>getX E st t' y fun rt' w=>tyE E t fun e=>tyI E e fun _=>match Nat.beq t t',v with
         | true,.one (.ref n)=>match lk st.s n with
           | some (.arr te rows false)=>match Nat.beq te e with
            | false=>False
            | true=>match w with
             | .one (.ref m)=>match Nat.beq m n,lk st.s m with
               | false,some (.arr te' rows' false)=>match Nat.beq te te' with
                 | true=>rows.length+rows'.length<=1048576/\match memN uid E.keep with
                   | true=>allSh rows'/\k ⟨rt++rt',[(n,.arr te rows false),(m,.arr te' rows' false)],.one (.ref (uid*64)),[(uid*64,.arr te (rows++rows') false)],[n]⟩
                   | false=>k ⟨rt++rt',[(n,.arr te rows false),(m,.arr te' rows' false)],.one (.ref (uid*64)),[(uid*64,.arr te (rows++rows') false)],[n,m]⟩
                 | false=>False
               | _,_=>False
             | .one (.fr ns te' rows')=>alive st ns fun ro=>match Nat.beq te te',memN n ns with
               | true,false=>rows.length+rows'.length<=1048576 /\
                 (
                  (allPrim rows'/\k ⟨rt++rt',(n,.arr te rows false)::ro,.one (.ref (uid*64)),[(uid*64,.arr te (rows++rows') false)],[n]⟩) \/
                  (ns=[]/\frzOk rows'/\k ⟨rt++rt',(n,.arr te rows false)::ro,.one (.ref (uid*64)),[(uid*64,.arr te (rows++rows'.map (List.map frz)) false)],[n]⟩))
               | _,_=>False
             | _=>False
           | _=>False
         | _,_=>False):=by
         refine hx fun rt v=>hx fun rt' w=>he fun e=>hi fun _=>?_;generalize Nat.beq t t'=q
         cases q with
         | false=>cases v<;>exact h0
         | true =>
           cases v with
           | one v =>
             cases v with
             | ref n =>
               simp only
               cases lk st.s n with
               | none=>exact h0
               | some ob =>
                 cases ob with
                 | box row=>exact h0
                 | arr te rows p =>
                   cases p with
                   | true=>exact h0
                   | false =>
                     simp only;generalize Nat.beq te e=q2
                     cases q2 with
                     | false=>exact h0
                     | true =>
                       cases w with
                       | one w =>
                         cases w with
                         | ref m =>
                           simp only;generalize Nat.beq m n=q3
                           cases q3 with
                           | true=>cases lk st.s m<;>exact h0
                           | false =>
                             cases lk st.s m with
                             | none=>exact h0
                             | some ob =>
                               cases ob with
                               | box row=>exact h0
                               | arr te' rows' p =>
                                 cases p with
                                 | true=>exact h0
                                 | false =>
                                   simp only;generalize Nat.beq te te'=q4;cases q4
                                   · exact h0
                                   · generalize memN uid E.keep=q6;cases q6
                                     · exact han (hp _)
                                     · exact han (han (hp _))
                         | fr ns te' rows' =>
                           simp only;refine ha fun ro=>?_;generalize Nat.beq te te'=q4;generalize memN n ns=q5
                           cases q4<;>cases q5<;>first|exact h0|exact han (hor (han (hp _)) (han (han (hp _))))
                         | _=>exact h0
                       | _=>exact h0
             | _=>exact h0
           | _=>exact h0
        exact key k h
      · exact h.elim
    · obtain ⟨rt,vs,h,h1⟩:=xcl _ h
      split at h
      · rename_i hlen;obtain ⟨pk,h,h2⟩:=xio _ h;exact ⟨_,h,fun k' h'=>h1 _ (by simp only [hlen]; exact h2 _ h')⟩
      · exact h.elim
    · rename_i i
      split at h
      · obtain ⟨rt,vs,h,h1⟩:=xcl _ h
        split at h
        · rename_i hlen;obtain ⟨pk,h,h2⟩:=xio _ h;exact ⟨_,h,fun k' h'=>h1 _ (by simp only [hlen]; exact h2 _ h')⟩
        · exact h.elim
      · exact h.elim
    · exact h.elim
  | _=>simp only [opP,hop]; exact h0
 exact key k h
end
end Go.AM
end
section
namespace Go.AM
open Go
section
variable {E:Env}
theorem xvr {st:St} {dst:Option Nat} {uid:Nat} {pk:Pk}:D1 (applyK st dst uid pk):=fun k h=>by
 obtain ⟨t,s,u⟩:=st;unfold applyK at h ⊢;cases dst<;>simp only [we,xd2,x5,zp] at h ⊢<;>split at h<;>exact ⟨_,h,fun k' h'=>h'⟩
theorem xpa {uid:Nat} {st:St} {o:Oper}:D2 (stepK E uid st o):=fun k h=>by
 unfold stepK at h ⊢;replace h:=xy7 _ h;obtain ⟨pk,h,h1⟩:=h
 split at h
 · rename_i hok;obtain ⟨st',h,h2⟩:=xvr _ h;exact ⟨_,_,h,fun k' h'=>h1 _ (by simp only [hok]; exact h2 _ h')⟩
 · exact h.elim
theorem xlc:∀ {ms:List Nat} {st:St},D1 (frzs ms st)
 | [],st=>fun k h=>⟨_,h,fun k' h'=>h'⟩
 | m::r,st=>fun k h=>by
   obtain ⟨t,s,u⟩:=st;simp only [frzs,xd2,x5] at h ⊢
   split at h
   · obtain ⟨x,h,h1⟩:=xlc _ h; exact ⟨_,h,fun k' h'=>h1 _ h'⟩
   · obtain ⟨x,h,h1⟩:=xlc _ h; exact ⟨_,h,fun k' h'=>h1 _ h'⟩
   · exact h.elim
theorem xtc {rid:Nat} {st:St}:D1 (frzK E rid st):=fun k h=>by
 unfold frzK at h ⊢
 split at h
 · exact ⟨_,h,fun k' h'=>h'⟩
 · exact xlc _ h
theorem qi {st:St} {d:Option Nat} {v:TV}:D1 (setK st d v):=fun k h=>by
 obtain ⟨t,s,u⟩:=st;cases d<;>exact ⟨_,h,fun k' h'=>h'⟩
theorem xcp {all:List Oper} {rid:Nat}:∀ {r:List Oper} {i:Nat} {st:St},D1 (vcSeq E all rid r i st)
 | [],i,st=>fun k h=>⟨_,h,fun k' h'=>h'⟩
 | o::r,i,st=>fun k h=>by
   have step:∀ {st:St} {k:St->Prop},(stepK E ((rid+1)*1000+i) st o fun st' _=>vcSeq E all rid r (i+1) st' k)->∃ x,k x/\∀ k',k' x->stepK E ((rid+1)*1000+i) st o fun st' _=>vcSeq E all rid r (i+1) st' k':=fun h=>by
    obtain ⟨st',pk,h,h1⟩:=xpa _ h;obtain ⟨x,h,h2⟩:=xcp _ h;exact ⟨_,h,fun k' h'=>h1 _ (h2 _ h')⟩
   simp only [vcSeq] at h ⊢
   split at h
   · exact step h
   · rename_i j want hg
     split at h
     · rename_i d hd
       split at h
       · rename_i b hv;cases want<;>cases b<;>simp only [ifB] at h ⊢
         · obtain ⟨s1,h,h1⟩:=qi _ h; obtain ⟨x,h,h2⟩:=step h; exact ⟨_,h,fun k' h'=>h1 _ (h2 _ h')⟩
         · obtain ⟨s1,h,h1⟩:=qi _ h; obtain ⟨s2,h,h2⟩:=qi _ h; obtain ⟨x,h,h3⟩:=xcp _ h; exact ⟨_,h,fun k' h'=>h1 _ (h2 _ (h3 _ h'))⟩
         · obtain ⟨s1,h,h1⟩:=qi _ h; obtain ⟨s2,h,h2⟩:=qi _ h; obtain ⟨x,h,h3⟩:=xcp _ h; exact ⟨_,h,fun k' h'=>h1 _ (h2 _ (h3 _ h'))⟩
         · obtain ⟨s1,h,h1⟩:=qi _ h; obtain ⟨x,h,h2⟩:=step h; exact ⟨_,h,fun k' h'=>h1 _ (h2 _ h')⟩
       · obtain ⟨s2,h,h2⟩:=qi _ h; obtain ⟨x,h,h3⟩:=xcp _ h; exact ⟨_,h,fun k' h'=>h2 _ (h3 _ h')⟩
       · exact h.elim
     · exact h.elim
theorem xcq {all:List Oper} {rid:Nat}:∀ {r:List Oper} {i:Nat} {st:St},D2 (vcOps E all rid r i st)
 | [],i,st=>fun k h=>⟨_,_,h,fun k' h'=>h'⟩
 | o::r,i,st=>fun k h=>by
   have step:∀ {st:St} {g:List Nat} {k:St->List Foot->Prop},(stepK E ((rid+1)*1000+i) st o fun st' pk=>footK i o g st pk fun ft=>vcOps E all rid r (i+1) st' fun st'' fs=>k st'' (ft::fs))->∃ x y,k x y/\∀ k':St->List Foot->Prop,k' x y->stepK E ((rid+1)*1000+i) st o fun st' pk=>footK i o g st pk fun ft=>vcOps E all rid r (i+1) st' fun st'' fs=>k' st'' (ft::fs):=fun h=>by
    obtain ⟨st',pk,h,h1⟩:=xpa _ h;rw [xgd] at h;obtain ⟨x,y,h,h2⟩:=xcq _ h;exact ⟨_,_,h,fun k' h'=>h1 _ (by rw [xgd]; exact h2 _ h')⟩
   simp only [vcOps] at h ⊢
   split at h
   · exact step h
   · rename_i j want hg
     split at h
     · rename_i d hd
       split at h
       · rename_i b hv;cases want<;>cases b<;>simp only [ifB] at h ⊢
         · obtain ⟨s1,h,h1⟩:=qi _ h; obtain ⟨x,y,h,h2⟩:=step h; exact ⟨_,_,h,fun k' h'=>h1 _ (h2 _ h')⟩
         · obtain ⟨s1,h,h1⟩:=qi _ h; obtain ⟨s2,h,h2⟩:=qi _ h; obtain ⟨x,y,h,h3⟩:=xcq _ h; exact ⟨_,_,h,fun k' h'=>h1 _ (h2 _ (h3 _ h'))⟩
         · obtain ⟨s1,h,h1⟩:=qi _ h; obtain ⟨s2,h,h2⟩:=qi _ h; obtain ⟨x,y,h,h3⟩:=xcq _ h; exact ⟨_,_,h,fun k' h'=>h1 _ (h2 _ (h3 _ h'))⟩
         · obtain ⟨s1,h,h1⟩:=qi _ h; obtain ⟨x,y,h,h2⟩:=step h; exact ⟨_,_,h,fun k' h'=>h1 _ (h2 _ h')⟩
       · obtain ⟨s2,h,h2⟩:=qi _ h; obtain ⟨x,y,h,h3⟩:=xcq _ h; exact ⟨_,_,h,fun k' h'=>h2 _ (h3 _ h')⟩
       · exact h.elim
     · exact h.elim
inductive Lp (E:Env) (c:Code) {α:Type} (inv:α->St) (μ:α->Nat):α->Ex->St->Prop
 | done {a:α} {e:Ex} {st:St} (hne:e≠.normal) (h:∀ k':Ex->St->Prop,k' e st->vc E c (inv a) k'):Lp E c inv μ a e st
 | more {a a':α} {s1:St} {e:Ex} {st:St} (hm:μ a'<μ a) (hw:weak s1 (inv a')) (h:∀ k':Ex->St->Prop,k' .normal s1->vc E c (inv a) k') (t:Lp E c inv μ a' e st):Lp E c inv μ a e st
theorem xgg:∀ {c:Code} {st:St},D2 (vc E c st)
 | .skip,st=>fun k h=>⟨_,_,h,fun k' h'=>h'⟩
 | .region rid ops dr,st=>fun k h=>by
   simp only [vc] at h ⊢;obtain ⟨s1,h,h1⟩:=xtc _ h;cases dr
   · obtain ⟨x,h,h2⟩:=xcp _ h; exact ⟨_,_,h,fun k' h'=>h1 _ (h2 _ h')⟩
   · obtain ⟨x,y,h,h2⟩:=xcq _ h
     split at h
     · rename_i hok; exact ⟨_,_,h,fun k' h'=>h1 _ (h2 _ (by simp only [hok]; exact h'))⟩
     · exact h.elim
 | .seq a b,st=>fun k h=>by
   simp only [vc] at h ⊢;obtain ⟨e,s1,h,h1⟩:=xgg _ h
   cases e with
   | normal=>obtain ⟨e',s2,h,h2⟩:=xgg _ h; exact ⟨_,_,h,fun k' h'=>h1 _ (h2 _ h')⟩
   | exit id=>exact ⟨_,_,h,fun k' h'=>h1 _ h'⟩
   | ret=>exact ⟨_,_,h,fun k' h'=>h1 _ h'⟩
 | .cond c x y,st=>fun k h=>by
   simp only [vc] at h ⊢;obtain ⟨rt,v,h,h1⟩:=wu _ h
   split at h
   · rename_i b;cases b<;>simp only [ifB] at h
     · obtain ⟨e,s1,h,h2⟩:=xgg _ h; exact ⟨_,_,h,fun k' h'=>h1 _ (h2 _ h')⟩
     · obtain ⟨e,s1,h,h2⟩:=xgg _ h; exact ⟨_,_,h,fun k' h'=>h1 _ (h2 _ h')⟩
   · exact h.elim
 | .block id c,st=>fun k h=>by
   simp only [vc] at h ⊢;obtain ⟨s0,h,h0⟩:=xtc _ h;obtain ⟨e,s1,h,h1⟩:=xgg _ h
   cases e with
   | normal=>exact ⟨_,_,h,fun k' h'=>h0 _ (h1 _ h')⟩
   | exit id' =>
     simp only at h;cases hb:Nat.beq id' id<;>rw [hb] at h
     · exact ⟨_,_,h,fun k' h'=>h0 _ (h1 _ (by simp only [hb]; exact h'))⟩
     · exact ⟨_,_,h,fun k' h'=>h0 _ (h1 _ (by simp only [hb]; exact h'))⟩
   | ret=>exact ⟨_,_,h,fun k' h'=>h0 _ (h1 _ h')⟩
 | .loop c,st=>fun Q h=>by
   simp only [vc] at h ⊢;obtain ⟨α,inv,μ,a0,hw,hr⟩:=h;have key:∀ (n:Nat) (a:α),μ a<n->∃ e s1,Q e s1/\Lp E c inv μ a e s1:=by
    intro n
    induction n with
    | zero=>intro a ha; omega
    | succ n ih =>
      intro a ha;obtain ⟨e,s1,h,h1⟩:=xgg _ (hr a)
      cases e with
      | normal =>
        obtain ⟨a',g1,g2⟩:=h;obtain ⟨e',s2,g3,g4⟩:=ih a' (by omega);exact ⟨e',s2,g3,.more g1 g2 h1 g4⟩
      | exit id=>exact ⟨_,_,h,.done (by intro e; cases e) h1⟩
      | ret=>exact ⟨_,_,h,.done (by intro e; cases e) h1⟩
   obtain ⟨e,s1,hq,hl⟩:=key _ a0 (Nat.lt_succ_self _);refine ⟨e,s1,hq,fun k' hk'=>⟨{ a:α // Lp E c inv μ a e s1 },fun a=>inv a.1,fun a=>μ a.1,⟨a0,hl⟩,hw,fun a=>?_⟩⟩;obtain ⟨a,ha⟩:=a
   cases ha with
   | done hne h =>
     refine h _ ?_
     cases e with
     | normal=>exact absurd rfl hne
     | exit id=>exact hk'
     | ret=>exact hk'
   | @more _ a' s2 _ _ hm hw' h t=>exact h _ ⟨⟨a',t⟩,hm,hw'⟩
 | .exit id,st=>fun k h=>⟨_,_,h,fun k' h'=>h'⟩
 | .ret,st=>fun k h=>⟨_,_,h,fun k' h'=>h'⟩
 | .rangeFunc ..,_=>fun k h=>h.elim
 | .scope _,_=>fun k h=>h.elim
 | .label _,_=>fun k h=>h.elim
 | .goto _,_=>fun k h=>h.elim
 | .refuse _,_=>fun k h=>h.elim
theorem xyk {st:St} {r:ResultVar}:D2 (resV E st r):=fun k h=>by
 unfold resV at h ⊢
 split at h
 · split at h
   · exact ⟨_,_,h,fun k' h'=>h'⟩
   · exact ⟨_,_,h,fun k' h'=>h'⟩
   · exact h.elim
 · split at h
   · replace h:=xc7 _ h;obtain ⟨ti,h,h1⟩:=h
     split at h
     · rename_i row hob
       split at h
       · rename_i g1 g2;exact ⟨_,_,h,fun k' h'=>h1 _ (by simp only [hob,g1,g2]; exact h')⟩
       · exact h.elim
     · exact h.elim
   · exact h.elim
theorem xyl {st:St} {ag:Bool} {cs:List AV} {del:List Nat}:D2 (retC st ag cs del):=fun k h=>by
 unfold retC at h ⊢
 split at h
 · split at h
   · obtain ⟨a,b,c,h,h1⟩:=yt _ h; exact ⟨_,_,h,fun k' h'=>h1 _ h'⟩
   · exact h.elim
 · obtain ⟨a,b,c,h,h1⟩:=yt _ h; exact ⟨_,_,h,fun k' h'=>h1 _ h'⟩
theorem xtd {st:St}:∀ {rs:List ResultVar} {del:List Nat},D2 (resK E st rs del)
 | [],del=>fun k h=>⟨_,_,h,fun k' h'=>h'⟩
 | r::rs,del=>fun k h=>by
   simp only [resK] at h ⊢;obtain ⟨ag,cs,h,h1⟩:=xyk _ h;obtain ⟨a,b,h,h2⟩:=xyl _ h;obtain ⟨c,d,h,h3⟩:=xtd _ h;exact ⟨_,_,h,fun k' h'=>h1 _ (h2 _ (h3 _ h'))⟩
theorem xym {st:St} {io:Bool} {del:List Nat}:D1 (outK st io del):=fun k h=>by
 unfold outK at h ⊢
 split at h
 · exact ⟨_,h,fun k' h'=>h'⟩
 · split at h
   · obtain ⟨a,b,c,h,h1⟩:=yt _ h;rw [xq] at h;exact ⟨_,h,fun k' h'=>h1 _ (by rw [xq]; exact h')⟩
   · exact h.elim
theorem xwy {fn:Func} {ins:List (Nat × Mode × TV)} {st:St}:D2 (AM.fin E fn ins st):=fun k h=>by
 unfold AM.fin at h ⊢;obtain ⟨l,d,h,h1⟩:=xtd _ h;replace h:=xym _ h;obtain ⟨outs,h,h2⟩:=h
 match l,h,h1,h2 with
 | [(ag,cs)],h,h1,h2 =>
   simp only [zp] at h;exact ⟨_,_,h,fun k' h'=>h1 _ (h2 _ (by simp only [zp]; exact h'))⟩
 | [],h,h1,h2=>exact ⟨_,_,h,fun k' h'=>h1 _ (h2 _ h')⟩
 | p::q::r,h,h1,h2=>exact ⟨_,_,h,fun k' h'=>h1 _ (h2 _ h')⟩
theorem xar:∀ {l:List (Nat × Mode × TV)},D2 (initK l)
 | []=>fun k h=>⟨_,_,h,fun k' h'=>h'⟩
 |
  (j,m,v)::r=>fun k h=>by
  cases m with
  | pure =>
    simp only [initK] at h ⊢
    cases v with
    | one a =>
      simp only [kx,x5] at h ⊢
      split at h
      · obtain ⟨a,b,h,h1⟩:=xar _ h; exact ⟨_,_,h,fun k' h'=>h1 _ h'⟩
      · exact h.elim
    | agg as1=>simp only [xq,x5] at h ⊢; obtain ⟨a,b,h,h1⟩:=xar _ h; exact ⟨_,_,h,fun k' h'=>h1 _ h'⟩
    | tup vs=>exact h.elim
  | own =>
    simp only [initK] at h ⊢
    cases v with
    | one a =>
      simp only [kx,x5] at h ⊢
      split at h
      · obtain ⟨a,b,h,h1⟩:=xar _ h; exact ⟨_,_,h,fun k' h'=>h1 _ h'⟩
      · exact h.elim
    | agg as1=>simp only [xq,x5] at h ⊢; obtain ⟨a,b,h,h1⟩:=xar _ h; exact ⟨_,_,h,fun k' h'=>h1 _ h'⟩
    | tup vs=>exact h.elim
  | «mut»=>exact h.elim
  | io lo hi =>
    simp only [initK] at h ⊢
    split at h
    · simp only [xq,x5] at h ⊢;obtain ⟨a,b,h,h1⟩:=xar _ h; exact ⟨_,_,h,fun k' h'=>h1 _ h'⟩
    · exact h.elim
theorem xyn {fn:Func} {c:Code} {ins:List (Nat × Mode × TV)}:D2 (fnVc E fn c ins):=fun k h=>by
 unfold fnVc at h ⊢;obtain ⟨ts,os,h,h1⟩:=xar _ h;rw [we] at h
 split at h
 · rename_i hok;obtain ⟨e,st,h,h2⟩:=xgg _ h
   cases e with
   | exit id=>exact h.elim
   | normal =>
     obtain ⟨v,os',h,h3⟩:=xwy _ h;exact ⟨_,_,h,fun k' h'=>h1 _ (by rw [we]; simp only [hok]; exact h2 _ (h3 _ h'))⟩
   | ret =>
     obtain ⟨v,os',h,h3⟩:=xwy _ h;exact ⟨_,_,h,fun k' h'=>h1 _ (by rw [we]; simp only [hok]; exact h2 _ (h3 _ h'))⟩
 · exact h.elim
theorem xip (hE:tabB E=true) (hm:E.P.follows .mixedOrders=true) {f:Nat} {fn:Func} {ins:List (Mode × TV)} {K:TV->List TV->Prop} (hf:E.P.funcs[f]?=some fn) (hk:okFn fn ins.length=true)
 (h:fnVc E fn (fn.body.getD .skip) (enumF 0 ins) K):∃ res outs,K res outs/\Sem E.P f ins outs res:=by
 obtain ⟨res,outs,h1,h2⟩:=xyn _ h;exact ⟨res,outs,h1,xwx hE hm hf hk (h2 _ ⟨rfl,rfl⟩)⟩
end
end Go.AM
end
section
namespace Go.AM
open Go
def pickT:List Nat->List (Nat × TV)->List (Nat × TV)
 | [],_=>[]
 | n::r,t=>match lk t n with
   | some v=>(n,v)::pickT r t
   | none=>pickT r t
def dropO:List (Nat × Ob)->List (Nat × Ob)->List (Nat × Ob)
 | _,[]=>[]
 | o,(n,x)::r=>match lk o n with
   | some _=>dropO o r
   | none=>(n,x)::dropO o r
def updL (live:List Nat) (ov:List (Nat × TV)) (oov:List (Nat × Ob)):St->St
 | ⟨t,s,u⟩=>⟨ov++pickT live t,oov++dropO oov s,u⟩
def fSt (st:St) (k:St->Prop):Prop:=match st with
 | ⟨t,s,u⟩=>fTs t fun t'=>fOs s fun s'=>k ⟨t',s',u⟩
theorem xek (st:St) (k:St->Prop):fSt st k=k st:=by obtain ⟨t,s,u⟩:=st; simp only [fSt,xd2,x5]
theorem rB {x y:Bool} (h:x=y):TV.one (.prim (.bool x))=B y/\([]:List TV)=[]:=⟨by rw [h],rfl⟩
theorem rI' {x y:Int} (h:x=y):TV.one (.prim (.int .i64 x))=I y/\([]:List TV)=[]:=⟨by rw [h],rfl⟩
theorem yv {a b:Int} (h:(a != b)=true):a≠b:=by simpa using h
theorem y8 {a b:Int} (h:(a != b)=false):a=b:=by simpa using h
theorem ixN {α:Type} {L:List α} {enc:α->List AV} {i:Nat} {k:List AV->Prop} (d:α) (h:i<L.length) (hk:k (enc (L.getD i d))):0<=(i:Int)/\∃ row,(L.map enc)[((i:Int)).toNat]?=some row/\k row :=
 ⟨by omega,_,by rw [xz9,xzr,xzh h,xzo,xzh h]; rfl,hk⟩
theorem ixI {α:Type} {L:List α} {enc:α->List AV} {i:Int} {k:List AV->Prop} (d:α) (h0:0<=i) (h:i<L.length) (hk:k (enc (L.getD i.toNat d))):0<=i/\∃ row,(L.map enc)[i.toNat]?=some row/\k row :=
 ⟨h0,_,by rw [xzr,xzh (by omega),xzo,xzh (by omega)]; rfl,hk⟩
theorem rwN {α:Type} {L:List α} {enc:α->List AV} {i:Nat} {k:List AV->Prop} (d:α) (h:i<L.length) (hk:k (enc (L.getD i d))):∃ row,(L.map enc)[i]?=some row/\k row :=
 ⟨_,by rw [xzr,xzh h,xzo,xzh h]; rfl,hk⟩
theorem z7 {α:Type} {p:α->Bool} {L:List α} (d:α) (h:∀ j,j<L.length->p (L.getD j d)=true):L.all p=true:=by
 rw [xzl];intro x hx;obtain ⟨j,hj,rfl⟩:=x0h.1 hx;have:=h j hj;rwa [xzo,xzh hj] at this
theorem z8 {α:Type} {p:α->Bool} {L:List α} (d:α) {j:Nat} (hj:j<L.length) (h:p (L.getD j d)=false):L.all p=false:=by
 cases hb:L.all p with
 | false=>rfl
 | true =>
   have:=xzl.1 hb _ (x0m hj);rw [xzo,xzh hj] at h;simp only [x1v] at h;rw [this] at h; cases h
theorem xas {α:Type} {a b:List α} (d:α) (hl:a.length=b.length) (h:∀ j,j<a.length->a.getD j d=b.getD j d):a=b:=by
 apply List.ext_getElem hl;intro j h1 h2;have:=h j h1;rwa [xzo,xzo,xzh h1,xzh h2] at this
theorem mkSl {a:Int} {k:Prop} (h1:0<=a) (h2:a<=268435456) (h:k):a=a/\0<=a/\a<=268435456/\k:=⟨rfl,h1,h2,h⟩
theorem ixC {rows:List (List AV)} {row:List AV} {i:Int} {k:List AV->Prop} (h0:0<=i) (h:rows[i.toNat]?=some row) (hk:k row):0<=i/\∃ row,rows[i.toNat]?=some row/\k row:=⟨h0,row,h,hk⟩
theorem ixK {rows:List (List AV)} {row:List AV} {n:Nat} {k:List AV->Prop} (h:rows[n]?=some row) (hk:k row):0<=(n:Int)/\∃ row,rows[((n:Int)).toNat]?=some row/\k row:=⟨by omega,row,by rw [xz9]; exact h,hk⟩
theorem ioK {rows:List (List AV)} {n:Nat} {k:Prop} (h:n<rows.length) (hk:k):0<=(n:Int)/\(n:Int)<rows.length/\k:=⟨by omega,by omega,hk⟩
theorem rwC {rows:List (List AV)} {row:List AV} {i:Nat} {k:List AV->Prop} (h:rows[i]?=some row) (hk:k row):∃ row,rows[i]?=some row/\k row:=⟨row,h,hk⟩
theorem ioN {rows:List (List AV)} {i:Int} {k:Prop} (h0:0<=i) (h:i<rows.length) (hk:k):0<=i/\i<rows.length/\k:=⟨h0,h,hk⟩
theorem xb (l:List Int):(ints l).length=l.length:=xzi ..
end Go.AM
end
