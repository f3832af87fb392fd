/- The law FnSerRun: whatever the input it returns true, and the input reads as it did (part 4 of 6). Conditions: none beyond the statement's own. -/
import Derived.Shelf.Strings.Builder1
import Derived.Shelf.Strings.BuilderF
import Derived.Shelf.Strings.BuilderK
import Derived.Shelf.Strconv.Itoa0
import Derived.Shelf.Strconv.Itoa1
import Derived.Shelf.LaysM
import Derived.Shelf.Strconv.Itoa2
import Derived.Shelf.Strconv.Itoa3
import Derived.Shelf.Strings.BuilderCap
import Derived.Shelf.Slices.Equal
import Derived.Ground.Names2Prog
import Derived.Shelf.Slices.Clone
import Derived.Shelf.Slices.Empties2
import Derived.Ground.SlgnProg
import Derived.Shelf.SlicesE.Clone
import Derived.Test.YthdknklcndbnmaaGreatDoorProg
import Derived.Lib.AppendIntMem
import Derived.BigCall
import Derived.Lib.ItoaNum
import Derived.Laws.Strings
import Derived.Test.YthdknklcndbnmaaGreatDoorSer3
set_option linter.unusedVariables false
set_option linter.unusedSimpArgs false
section
namespace Go.Proofs
open Go.Shelf
def Tryz.lays169_ren : Go.Shelf.Ren := ⟨fun | 169 => 352 | n => n, fun | 70 => 347 | 9 => 9 | 0 => 0 | 72 => 349 | 37 => 22 | 127 => 359 | 3 => 3 | 5 => 5 | n => n, fun | n => n⟩
theorem Tryz.lays169 : Go.Proofs.Lays.n169 Tryz.prog Tryz.lays169_ren := {
  mixed := by kernel_rfl
  f169 := Tryz.func352.trans (congrArg some (by kernel_rfl))
  t0 := Tryz.underlying0
  a0 := Tryz.isAgg0
  z0 := Tryz.sizeOf0
  v0 := Tryz.zeroValue0
  t3 := Tryz.underlying3
  a3 := Tryz.isAgg3
  z3 := Tryz.sizeOf3
  v3 := Tryz.zeroValue3
  t9 := Tryz.underlying9
  a9 := Tryz.isAgg9
  z9 := Tryz.sizeOf9
  v9 := Tryz.zeroValue9
  t37 := Tryz.underlying22
  a37 := Tryz.isAgg22
  z37 := Tryz.sizeOf22
  v37 := Tryz.zeroValue22
  t70 := Tryz.underlying347
  a70 := Tryz.isAgg347
  z70 := Tryz.sizeOf347
  v70 := Tryz.zeroValue347
  t72 := Tryz.underlying349
  a72 := Tryz.isAgg349
  z72 := Tryz.sizeOf349
  v72 := Tryz.zeroValue349
  t127 := Tryz.underlying359
  a127 := Tryz.isAgg359
  z127 := Tryz.sizeOf359
  v127 := Tryz.zeroValue359 }
theorem Tryz.Builder_Extra_169 : Builder.Extra Tryz.prog Tryz.lays169_ren := {
  sizeBuilder := by kernel_rfl
  liesBuilder := by kernel_rfl
  t5 := Tryz.underlying5
  a5 := Tryz.isAgg5
  z5 := Tryz.sizeOf5
  v5 := Tryz.zeroValue5
  infoByte := by kernel_rfl
  cellsByte := by kernel_rfl
  sizeByte := by kernel_rfl
  neB5 := by decide }
open Go.RowKit in
theorem Tryz.Builder_String (B b : Nat) (l : List UInt8) (w : World) (h : Lib.IsBuilder 349 5 B b (Lib.byteCells l) w) (h0 : l ≠ []) :
    Calls Tryz.prog 352 #[.pointer (some ⟨b, 0, none⟩)] w fun e w' => e = .returned (.string ⟨l.toArray⟩) ∧ Below B w w' := Any.Builder_String Tryz.lays169 Tryz.Builder_Extra_169 B b l w h h0
open Go.RowKit in
theorem Tryz.Builder_String_empty (B b : Nat) (w : World) (h : Lib.IsBuilder 349 5 B b [] w) (hBw : B ≤ w.heap.size) :
    Calls Tryz.prog 352 #[.pointer (some ⟨b, 0, none⟩)] w fun e w' => e = .returned (.string ⟨#[]⟩) ∧ Below B w w' := Any.Builder_String_empty Tryz.lays169 Tryz.Builder_Extra_169 B b w h hBw
open Go.RowKit in
theorem Tryz.Builder_String_any (B b : Nat) (l : List UInt8) (w : World) (h : Lib.IsBuilder 349 5 B b (Lib.byteCells l) w) (hBw : B ≤ w.heap.size) :
    Calls Tryz.prog 352 #[.pointer (some ⟨b, 0, none⟩)] w fun e w' => e = .returned (.string ⟨l.toArray⟩) ∧ Below B w w' := Any.Builder_String_any Tryz.lays169 Tryz.Builder_Extra_169 B b l w h hBw
open Go.RowKit in
theorem Tryz.Builder_String_f (B b : Nat) (l : List UInt8) (w : World) (h : Lib.IsBuilderF 349 5 B b (Lib.byteCells l) w) (h0 : l ≠ []) :
    Calls Tryz.prog 352 #[.pointer (some ⟨b, 0, none⟩)] w fun e w' => e = .returned (.string ⟨l.toArray⟩) ∧ (Lib.IsBuilderF 349 5 B b (Lib.byteCells l) w' ∧ Below B w w') := Any.Builder_String_f Tryz.lays169 Tryz.Builder_Extra_169 B b l w h h0
open Go.RowKit in
theorem Tryz.Builder_String_empty_f (B b : Nat) (w : World) (h : Lib.IsBuilderF 349 5 B b [] w) (hBw : B ≤ w.heap.size) :
    Calls Tryz.prog 352 #[.pointer (some ⟨b, 0, none⟩)] w fun e w' => e = .returned (.string ⟨#[]⟩) ∧ (Lib.IsBuilderF 349 5 B b [] w' ∧ Below B w w') := Any.Builder_String_empty_f Tryz.lays169 Tryz.Builder_Extra_169 B b w h hBw
open Go.RowKit in
theorem Tryz.Builder_String_any_f (B b : Nat) (l : List UInt8) (w : World) (h : Lib.IsBuilderF 349 5 B b (Lib.byteCells l) w) (hBw : B ≤ w.heap.size) :
    Calls Tryz.prog 352 #[.pointer (some ⟨b, 0, none⟩)] w fun e w' => e = .returned (.string ⟨l.toArray⟩) ∧ (Lib.IsBuilderF 349 5 B b (Lib.byteCells l) w' ∧ Below B w w') := Any.Builder_String_any_f Tryz.lays169 Tryz.Builder_Extra_169 B b l w h hBw
open Go.RowKit in
theorem Tryz.Builder_String_k (B b : Nat) (l : List UInt8) (w : World) (h : Lib.IsBuilderF 349 5 B b (Lib.byteCells l) w) (h0 : l ≠ []) :
    Calls Tryz.prog 352 #[.pointer (some ⟨b, 0, none⟩)] w fun e w' => e = .returned (.string ⟨l.toArray⟩) ∧ (Lib.IsBuilderF 349 5 B b (Lib.byteCells l) w' ∧ Below B w w' ∧ Lib.OthersKept 5 (some b) w w') := Any.Builder_String_k Tryz.lays169 Tryz.Builder_Extra_169 B b l w h h0
open Go.RowKit in
theorem Tryz.Builder_String_empty_k (B b : Nat) (w : World) (h : Lib.IsBuilderF 349 5 B b [] w) (hBw : B ≤ w.heap.size) :
    Calls Tryz.prog 352 #[.pointer (some ⟨b, 0, none⟩)] w fun e w' => e = .returned (.string ⟨#[]⟩) ∧ (Lib.IsBuilderF 349 5 B b [] w' ∧ Below B w w' ∧ Lib.OthersKept 5 (some b) w w') := Any.Builder_String_empty_k Tryz.lays169 Tryz.Builder_Extra_169 B b w h hBw
open Go.RowKit in
theorem Tryz.Builder_String_any_k (B b : Nat) (l : List UInt8) (w : World) (h : Lib.IsBuilderF 349 5 B b (Lib.byteCells l) w) (hBw : B ≤ w.heap.size) :
    Calls Tryz.prog 352 #[.pointer (some ⟨b, 0, none⟩)] w fun e w' => e = .returned (.string ⟨l.toArray⟩) ∧ (Lib.IsBuilderF 349 5 B b (Lib.byteCells l) w' ∧ Below B w w' ∧ Lib.OthersKept 5 (some b) w w') := Any.Builder_String_any_k Tryz.lays169 Tryz.Builder_Extra_169 B b l w h hBw
def Tryz.lays129_ren : Go.Shelf.Ren := ⟨fun | 129 => 376 | n => n, fun | 53 => 367 | 3 => 3 | 4 => 4 | 46 => 342 | 5 => 5 | 9 => 9 | n => n, fun | n => n⟩
theorem Tryz.lays129 : Go.Proofs.Lays.n129 Tryz.prog Tryz.lays129_ren := {
  mixed := by kernel_rfl
  f129 := Tryz.func376.trans (congrArg some (by kernel_rfl))
  t3 := Tryz.underlying3
  a3 := Tryz.isAgg3
  z3 := Tryz.sizeOf3
  v3 := Tryz.zeroValue3
  t4 := Tryz.underlying4
  a4 := Tryz.isAgg4
  z4 := Tryz.sizeOf4
  v4 := Tryz.zeroValue4
  t5 := Tryz.underlying5
  a5 := Tryz.isAgg5
  z5 := Tryz.sizeOf5
  v5 := Tryz.zeroValue5
  t9 := Tryz.underlying9
  a9 := Tryz.isAgg9
  z9 := Tryz.sizeOf9
  v9 := Tryz.zeroValue9
  t46 := Tryz.underlying342
  a46 := Tryz.isAgg342
  z46 := Tryz.sizeOf342
  v46 := Tryz.zeroValue342
  t53 := Tryz.underlying367
  a53 := Tryz.isAgg367
  z53 := Tryz.sizeOf367
  v53 := Tryz.zeroValue367 }
theorem Tryz.bits_Len64 (x : Int) (w : World) (h0 : 0 ≤ x) (h1 : x ≤ 18446744073709551615) :
    Calls Tryz.prog 376 #[.int .u64 x] w fun e w' => e = .returned (.int .i64 (Lib.bitLen x.toNat)) ∧ w' = w := Any.bits_Len64 Tryz.lays129 x w h0 h1
def Tryz.lays317_ren : Go.Shelf.Ren := ⟨fun | 317 => 375 | n => n, fun | 3 => 3 | 46 => 342 | n => n, fun | n => n⟩
theorem Tryz.lays317 : Go.Proofs.Lays.n317 Tryz.prog Tryz.lays317_ren := {
  mixed := by kernel_rfl
  f317 := Tryz.func375.trans (congrArg some (by kernel_rfl))
  t3 := Tryz.underlying3
  a3 := Tryz.isAgg3
  z3 := Tryz.sizeOf3
  v3 := Tryz.zeroValue3
  t46 := Tryz.underlying342
  a46 := Tryz.isAgg342
  z46 := Tryz.sizeOf342
  v46 := Tryz.zeroValue342 }
open Go.Lib in
theorem Tryz.internal_strconv_log10Pow2 (x : Nat) (h : x ≤ 64) (w : World) :
    Calls Tryz.prog 375 #[.int .i64 x] w fun e w' => e = .returned (.int .i64 (Lib.l10 x)) ∧ w' = w := Any.internal_strconv_log10Pow2 Tryz.lays317 x h w
def Tryz.lays318_ren : Go.Shelf.Ren := ⟨fun | 318 => 377 | n => n, fun | 3 => 3 | 4 => 4 | n => n, fun | n => n⟩
theorem Tryz.lays318 : Go.Proofs.Lays.n318 Tryz.prog Tryz.lays318_ren := {
  mixed := by kernel_rfl
  f318 := Tryz.func377.trans (congrArg some (by kernel_rfl))
  t3 := Tryz.underlying3
  a3 := Tryz.isAgg3
  z3 := Tryz.sizeOf3
  v3 := Tryz.zeroValue3
  t4 := Tryz.underlying4
  a4 := Tryz.isAgg4
  z4 := Tryz.sizeOf4
  v4 := Tryz.zeroValue4 }
open Go.Lib in
theorem Tryz.internal_strconv_bool2_int (b : Bool) (w : World) :
    Calls Tryz.prog 377 #[.bool b] w fun e w' => e = .returned (.int .i64 (if b then 1 else 0)) ∧ w' = w := Any.internal_strconv_bool2_int Tryz.lays318 b w
def Tryz.lays283_ren : Go.Shelf.Ren := ⟨fun | 283 => 371 | n => n, fun | 3 => 3 | 9 => 9 | 4 => 4 | n => n, fun | n => n⟩
theorem Tryz.lays283 : Go.Proofs.Lays.n283 Tryz.prog Tryz.lays283_ren := {
  mixed := by kernel_rfl
  f283 := Tryz.func371.trans (congrArg some (by kernel_rfl))
  t3 := Tryz.underlying3
  a3 := Tryz.isAgg3
  z3 := Tryz.sizeOf3
  v3 := Tryz.zeroValue3
  t4 := Tryz.underlying4
  a4 := Tryz.isAgg4
  z4 := Tryz.sizeOf4
  v4 := Tryz.zeroValue4
  t9 := Tryz.underlying9
  a9 := Tryz.isAgg9
  z9 := Tryz.sizeOf9
  v9 := Tryz.zeroValue9 }
open Go.Lib in
theorem Tryz.internal_strconv_small (i : Nat) (h : i < 100) (w : World) :
    Calls Tryz.prog 371 #[.int .i64 i] w fun e w' => e = .returned (.string ⟨(Lib.decDigits i).toArray⟩) ∧ w' = w := Any.internal_strconv_small Tryz.lays283 i h w
def Tryz.laysM284_ren : Go.Shelf.Ren := ⟨fun | 284 => 372 | 129 => 376 | 317 => 375 | 318 => 377 | n => n, fun | 53 => 367 | 3 => 3 | 212 => 373 | 0 => 0 | 4 => 4 | 46 => 342 | 5 => 5 | 9 => 9 | n => n, fun | 17 => 0 | n => n⟩
theorem Tryz.laysM284 : Go.Proofs.LaysM.n284 Tryz.prog Tryz.laysM284_ren := {
  mixed := by kernel_rfl
  f129 := Tryz.func376.trans (congrArg some (by kernel_rfl))
  f284 := Tryz.func372.trans (congrArg some (by kernel_rfl))
  f317 := Tryz.func375.trans (congrArg some (by kernel_rfl))
  f318 := Tryz.func377.trans (congrArg some (by kernel_rfl))
  t0 := Tryz.underlying0
  a0 := Tryz.isAgg0
  z0 := Tryz.sizeOf0
  v0 := Tryz.zeroValue0
  t3 := Tryz.underlying3
  a3 := Tryz.isAgg3
  z3 := Tryz.sizeOf3
  v3 := Tryz.zeroValue3
  t4 := Tryz.underlying4
  a4 := Tryz.isAgg4
  z4 := Tryz.sizeOf4
  v4 := Tryz.zeroValue4
  t5 := Tryz.underlying5
  a5 := Tryz.isAgg5
  z5 := Tryz.sizeOf5
  v5 := Tryz.zeroValue5
  t9 := Tryz.underlying9
  a9 := Tryz.isAgg9
  z9 := Tryz.sizeOf9
  v9 := Tryz.zeroValue9
  t46 := Tryz.underlying342
  a46 := Tryz.isAgg342
  z46 := Tryz.sizeOf342
  v46 := Tryz.zeroValue342
  t53 := Tryz.underlying367
  a53 := Tryz.isAgg367
  z53 := Tryz.sizeOf367
  v53 := Tryz.zeroValue367
  t212 := Tryz.underlying373
  a212 := Tryz.isAgg373
  z212 := Tryz.sizeOf373
  v212 := Tryz.zeroValue373
  g17 := by kernel_rfl
  i0 := by kernel_rfl
  i3 := by kernel_rfl
  i4 := by kernel_rfl
  i5 := by kernel_rfl
  i9 := by kernel_rfl
  i46 := by kernel_rfl
  i53 := by kernel_rfl
  i212 := by kernel_rfl
  m17 := by kernel_rfl }
open Go.Lib in
theorem Tryz.internal_strconv_numDigits (u : Nat) (h1 : 1 ≤ u) (h2 : u < 18446744073709551616) (w : World) (htab : Lib.TabIs Tryz.prog w "internal/strconv.uint64pow10" .u64 Lib.pow10Tab) :
    Calls Tryz.prog 372 #[.int .u64 u] w fun e w' => e = .returned (.int .i64 (Lib.nDigits u)) ∧ w' = w := Any.internal_strconv_numDigits Tryz.laysM284 u h1 h2 w htab
def Tryz.lays285_ren : Go.Shelf.Ren := ⟨fun | 285 => 373 | n => n, fun | 37 => 22 | 53 => 367 | 3 => 3 | 4 => 4 | 51 => 374 | 9 => 9 | 5 => 5 | 0 => 0 | n => n, fun | n => n⟩
theorem Tryz.lays285 : Go.Proofs.Lays.n285 Tryz.prog Tryz.lays285_ren := {
  mixed := by kernel_rfl
  f285 := Tryz.func373.trans (congrArg some (by kernel_rfl))
  t0 := Tryz.underlying0
  a0 := Tryz.isAgg0
  z0 := Tryz.sizeOf0
  v0 := Tryz.zeroValue0
  t3 := Tryz.underlying3
  a3 := Tryz.isAgg3
  z3 := Tryz.sizeOf3
  v3 := Tryz.zeroValue3
  t4 := Tryz.underlying4
  a4 := Tryz.isAgg4
  z4 := Tryz.sizeOf4
  v4 := Tryz.zeroValue4
  t5 := Tryz.underlying5
  a5 := Tryz.isAgg5
  z5 := Tryz.sizeOf5
  v5 := Tryz.zeroValue5
  t9 := Tryz.underlying9
  a9 := Tryz.isAgg9
  z9 := Tryz.sizeOf9
  v9 := Tryz.zeroValue9
  t37 := Tryz.underlying22
  a37 := Tryz.isAgg22
  z37 := Tryz.sizeOf22
  v37 := Tryz.zeroValue22
  t51 := Tryz.underlying374
  a51 := Tryz.isAgg374
  z51 := Tryz.sizeOf374
  v51 := Tryz.zeroValue374
  t53 := Tryz.underlying367
  a53 := Tryz.isAgg367
  z53 := Tryz.sizeOf367
  v53 := Tryz.zeroValue367 }
open Go.RowKit Go.Sort Go.Lib in
theorem Tryz.internal_strconv_formatBase10 (blk off cap : Nat) (u : Nat) (d : Array UInt8) (w : World) (hH : Holds (fun (b : UInt8) => Value.int .u8 (b.toNat : Int)) w blk off d) (hu : u < 10 ^ d.size) (hu64 : u < 18446744073709551616) (hsz : d.size < 4611686018427387904) :
    Calls Tryz.prog 373 #[.slice (some ⟨blk, off, none⟩) d.size cap, .int .u64 u] w fun e w' =>
      e = .returned (.tuple #[]) ∧ ∃ (n v' : Nat) (dk : Array UInt8), w' = (putRow (fun (b : UInt8) => Value.int .u8 (b.toNat : Int)) w blk off dk).drewN n ∧ FmtInv d.size u 0 v' dk := Any.internal_strconv_formatBase10 Tryz.lays285 blk off cap u d w hH hu hu64 hsz
def Tryz.laysM246_ren : Go.Shelf.Ren := ⟨fun | 246 => 370 | 283 => 371 | 284 => 372 | 285 => 373 | 286 => 374 | 129 => 376 | 317 => 375 | 318 => 377 | 319 => 378 | 320 => 379 | 337 => 380 | 338 => 381 | n => n, fun | 2 => 2 | 3 => 3 | 9 => 9 | 4 => 4 | 171 => 366 | 0 => 0 | 53 => 367 | 37 => 22 | 5 => 5 | 173 => 370 | 212 => 373 | 51 => 374 | 20 => 20 | 213 => 375 | 46 => 342 | 232 => 378 | 233 => 379 | n => n, fun | 17 => 0 | 18 => 1 | 19 => 2 | n => n⟩
theorem Tryz.laysM246 : Go.Proofs.LaysM.n246 Tryz.prog Tryz.laysM246_ren := {
  mixed := by kernel_rfl
  f129 := Tryz.func376.trans (congrArg some (by kernel_rfl))
  f246 := Tryz.func370.trans (congrArg some (by kernel_rfl))
  f283 := Tryz.func371.trans (congrArg some (by kernel_rfl))
  f284 := Tryz.func372.trans (congrArg some (by kernel_rfl))
  f285 := Tryz.func373.trans (congrArg some (by kernel_rfl))
  f286 := Tryz.func374.trans (congrArg some (by kernel_rfl))
  f317 := Tryz.func375.trans (congrArg some (by kernel_rfl))
  f318 := Tryz.func377.trans (congrArg some (by kernel_rfl))
  f319 := Tryz.func378.trans (congrArg some (by kernel_rfl))
  f320 := Tryz.func379.trans (congrArg some (by kernel_rfl))
  f337 := Tryz.func380.trans (congrArg some (by kernel_rfl))
  f338 := Tryz.func381.trans (congrArg some (by kernel_rfl))
  t0 := Tryz.underlying0
  a0 := Tryz.isAgg0
  z0 := Tryz.sizeOf0
  v0 := Tryz.zeroValue0
  t2 := Tryz.underlying2
  a2 := Tryz.isAgg2
  z2 := Tryz.sizeOf2
  v2 := Tryz.zeroValue2
  t3 := Tryz.underlying3
  a3 := Tryz.isAgg3
  z3 := Tryz.sizeOf3
  v3 := Tryz.zeroValue3
  t4 := Tryz.underlying4
  a4 := Tryz.isAgg4
  z4 := Tryz.sizeOf4
  v4 := Tryz.zeroValue4
  t5 := Tryz.underlying5
  a5 := Tryz.isAgg5
  z5 := Tryz.sizeOf5
  v5 := Tryz.zeroValue5
  t9 := Tryz.underlying9
  a9 := Tryz.isAgg9
  z9 := Tryz.sizeOf9
  v9 := Tryz.zeroValue9
  t20 := Tryz.underlying20
  a20 := Tryz.isAgg20
  z20 := Tryz.sizeOf20
  v20 := Tryz.zeroValue20
  t37 := Tryz.underlying22
  a37 := Tryz.isAgg22
  z37 := Tryz.sizeOf22
  v37 := Tryz.zeroValue22
  t46 := Tryz.underlying342
  a46 := Tryz.isAgg342
  z46 := Tryz.sizeOf342
  v46 := Tryz.zeroValue342
  t51 := Tryz.underlying374
  a51 := Tryz.isAgg374
  z51 := Tryz.sizeOf374
  v51 := Tryz.zeroValue374
  t53 := Tryz.underlying367
  a53 := Tryz.isAgg367
  z53 := Tryz.sizeOf367
  v53 := Tryz.zeroValue367
  t171 := Tryz.underlying366
  a171 := Tryz.isAgg366
  z171 := Tryz.sizeOf366
  v171 := Tryz.zeroValue366
  t173 := Tryz.underlying370
  a173 := Tryz.isAgg370
  z173 := Tryz.sizeOf370
  v173 := Tryz.zeroValue370
  t212 := Tryz.underlying373
  a212 := Tryz.isAgg373
  z212 := Tryz.sizeOf373
  v212 := Tryz.zeroValue373
  t213 := Tryz.underlying375
  a213 := Tryz.isAgg375
  z213 := Tryz.sizeOf375
  t232 := Tryz.underlying378
  a232 := Tryz.isAgg378
  z232 := Tryz.sizeOf378
  v232 := Tryz.zeroValue378
  t233 := Tryz.underlying379
  a233 := Tryz.isAgg379
  z233 := Tryz.sizeOf379
  v233 := Tryz.zeroValue379
  g17 := by kernel_rfl
  g18 := by kernel_rfl
  g19 := by kernel_rfl
  i0 := by kernel_rfl
  i2 := by kernel_rfl
  i3 := by kernel_rfl
  i4 := by kernel_rfl
  i5 := by kernel_rfl
  i9 := by kernel_rfl
  i20 := by kernel_rfl
  i37 := by kernel_rfl
  i46 := by kernel_rfl
  i51 := by kernel_rfl
  i53 := by kernel_rfl
  i171 := by kernel_rfl
  i173 := by kernel_rfl
  i212 := by kernel_rfl
  i232 := by kernel_rfl
  i233 := by kernel_rfl
  m17 := by kernel_rfl
  m18 := by kernel_rfl
  m19 := by kernel_rfl }
open Go.RowKit Go.Sort Go.Lib in
theorem Tryz.internal_strconv_FormatInt_10 (n : Int) (h0 : -9223372036854775808 ≤ n) (h1 : n ≤ 9223372036854775807) (w : World) (htab : Lib.TabIs Tryz.prog w "internal/strconv.uint64pow10" .u64 Lib.pow10Tab) :
    Calls Tryz.prog 370 #[.int .i64 n, .int .i64 10] w fun e w' => e = .returned (.string ⟨(Lib.itoa n).toArray⟩) ∧ ∃ k os, w' = grow (w.drewN k) os := Any.internal_strconv_FormatInt_10 Tryz.laysM246 n h0 h1 w htab
def Tryz.lays246_ren : Go.Shelf.Ren := ⟨fun | 246 => 370 | 283 => 371 | 284 => 372 | 285 => 373 | 286 => 374 | 129 => 376 | 317 => 375 | 318 => 377 | 319 => 378 | 320 => 379 | 337 => 380 | 338 => 381 | n => n, fun | 2 => 2 | 3 => 3 | 9 => 9 | 4 => 4 | 171 => 366 | 0 => 0 | 53 => 367 | 37 => 22 | 5 => 5 | 173 => 370 | 212 => 373 | 51 => 374 | 20 => 20 | 213 => 375 | 46 => 342 | 232 => 378 | 233 => 379 | n => n, fun | 17 => 0 | 18 => 1 | 19 => 2 | n => n⟩
theorem Tryz.lays246 : Go.Proofs.Lays.n246 Tryz.prog Tryz.lays246_ren := {
  mixed := by kernel_rfl
  f129 := Tryz.func376.trans (congrArg some (by kernel_rfl))
  f246 := Tryz.func370.trans (congrArg some (by kernel_rfl))
  f283 := Tryz.func371.trans (congrArg some (by kernel_rfl))
  f284 := Tryz.func372.trans (congrArg some (by kernel_rfl))
  f285 := Tryz.func373.trans (congrArg some (by kernel_rfl))
  f286 := Tryz.func374.trans (congrArg some (by kernel_rfl))
  f317 := Tryz.func375.trans (congrArg some (by kernel_rfl))
  f318 := Tryz.func377.trans (congrArg some (by kernel_rfl))
  f319 := Tryz.func378.trans (congrArg some (by kernel_rfl))
  f320 := Tryz.func379.trans (congrArg some (by kernel_rfl))
  f337 := Tryz.func380.trans (congrArg some (by kernel_rfl))
  f338 := Tryz.func381.trans (congrArg some (by kernel_rfl))
  t0 := Tryz.underlying0
  a0 := Tryz.isAgg0
  z0 := Tryz.sizeOf0
  v0 := Tryz.zeroValue0
  t2 := Tryz.underlying2
  a2 := Tryz.isAgg2
  z2 := Tryz.sizeOf2
  v2 := Tryz.zeroValue2
  t3 := Tryz.underlying3
  a3 := Tryz.isAgg3
  z3 := Tryz.sizeOf3
  v3 := Tryz.zeroValue3
  t4 := Tryz.underlying4
  a4 := Tryz.isAgg4
  z4 := Tryz.sizeOf4
  v4 := Tryz.zeroValue4
  t5 := Tryz.underlying5
  a5 := Tryz.isAgg5
  z5 := Tryz.sizeOf5
  v5 := Tryz.zeroValue5
  t9 := Tryz.underlying9
  a9 := Tryz.isAgg9
  z9 := Tryz.sizeOf9
  v9 := Tryz.zeroValue9
  t20 := Tryz.underlying20
  a20 := Tryz.isAgg20
  z20 := Tryz.sizeOf20
  v20 := Tryz.zeroValue20
  t37 := Tryz.underlying22
  a37 := Tryz.isAgg22
  z37 := Tryz.sizeOf22
  v37 := Tryz.zeroValue22
  t46 := Tryz.underlying342
  a46 := Tryz.isAgg342
  z46 := Tryz.sizeOf342
  v46 := Tryz.zeroValue342
  t51 := Tryz.underlying374
  a51 := Tryz.isAgg374
  z51 := Tryz.sizeOf374
  v51 := Tryz.zeroValue374
  t53 := Tryz.underlying367
  a53 := Tryz.isAgg367
  z53 := Tryz.sizeOf367
  v53 := Tryz.zeroValue367
  t171 := Tryz.underlying366
  a171 := Tryz.isAgg366
  z171 := Tryz.sizeOf366
  v171 := Tryz.zeroValue366
  t173 := Tryz.underlying370
  a173 := Tryz.isAgg370
  z173 := Tryz.sizeOf370
  v173 := Tryz.zeroValue370
  t212 := Tryz.underlying373
  a212 := Tryz.isAgg373
  z212 := Tryz.sizeOf373
  v212 := Tryz.zeroValue373
  t213 := Tryz.underlying375
  a213 := Tryz.isAgg375
  z213 := Tryz.sizeOf375
  t232 := Tryz.underlying378
  a232 := Tryz.isAgg378
  z232 := Tryz.sizeOf378
  v232 := Tryz.zeroValue378
  t233 := Tryz.underlying379
  a233 := Tryz.isAgg379
  z233 := Tryz.sizeOf379
  v233 := Tryz.zeroValue379
  g17 := by kernel_rfl
  g18 := by kernel_rfl
  g19 := by kernel_rfl }
open Go.RowKit Go.Sort Go.Lib in
theorem Tryz.internal_strconv_FormatInt_10_small (i : Nat) (hi : i < 100) (w : World) :
    Calls Tryz.prog 370 #[.int .i64 i, .int .i64 10] w fun e w' => e = .returned (.string ⟨(Lib.decDigits i).toArray⟩) ∧ w' = w := Any.internal_strconv_FormatInt_10_small Tryz.lays246 i hi w
def Tryz.laysM243_ren : Go.Shelf.Ren := ⟨fun | 243 => 363 | 246 => 370 | 283 => 371 | 284 => 372 | 285 => 373 | 286 => 374 | 129 => 376 | 317 => 375 | 318 => 377 | 319 => 378 | 320 => 379 | 337 => 380 | 338 => 381 | n => n, fun | 3 => 3 | 9 => 9 | 2 => 2 | 4 => 4 | 171 => 366 | 0 => 0 | 53 => 367 | 37 => 22 | 5 => 5 | 173 => 370 | 212 => 373 | 51 => 374 | 20 => 20 | 213 => 375 | 46 => 342 | 232 => 378 | 233 => 379 | n => n, fun | 17 => 0 | 18 => 1 | 19 => 2 | n => n⟩
theorem Tryz.laysM243 : Go.Proofs.LaysM.n243 Tryz.prog Tryz.laysM243_ren := {
  mixed := by kernel_rfl
  f129 := Tryz.func376.trans (congrArg some (by kernel_rfl))
  f243 := Tryz.func363.trans (congrArg some (by kernel_rfl))
  f246 := Tryz.func370.trans (congrArg some (by kernel_rfl))
  f283 := Tryz.func371.trans (congrArg some (by kernel_rfl))
  f284 := Tryz.func372.trans (congrArg some (by kernel_rfl))
  f285 := Tryz.func373.trans (congrArg some (by kernel_rfl))
  f286 := Tryz.func374.trans (congrArg some (by kernel_rfl))
  f317 := Tryz.func375.trans (congrArg some (by kernel_rfl))
  f318 := Tryz.func377.trans (congrArg some (by kernel_rfl))
  f319 := Tryz.func378.trans (congrArg some (by kernel_rfl))
  f320 := Tryz.func379.trans (congrArg some (by kernel_rfl))
  f337 := Tryz.func380.trans (congrArg some (by kernel_rfl))
  f338 := Tryz.func381.trans (congrArg some (by kernel_rfl))
  t0 := Tryz.underlying0
  a0 := Tryz.isAgg0
  z0 := Tryz.sizeOf0
  v0 := Tryz.zeroValue0
  t2 := Tryz.underlying2
  a2 := Tryz.isAgg2
  z2 := Tryz.sizeOf2
  v2 := Tryz.zeroValue2
  t3 := Tryz.underlying3
  a3 := Tryz.isAgg3
  z3 := Tryz.sizeOf3
  v3 := Tryz.zeroValue3
  t4 := Tryz.underlying4
  a4 := Tryz.isAgg4
  z4 := Tryz.sizeOf4
  v4 := Tryz.zeroValue4
  t5 := Tryz.underlying5
  a5 := Tryz.isAgg5
  z5 := Tryz.sizeOf5
  v5 := Tryz.zeroValue5
  t9 := Tryz.underlying9
  a9 := Tryz.isAgg9
  z9 := Tryz.sizeOf9
  v9 := Tryz.zeroValue9
  t20 := Tryz.underlying20
  a20 := Tryz.isAgg20
  z20 := Tryz.sizeOf20
  v20 := Tryz.zeroValue20
  t37 := Tryz.underlying22
  a37 := Tryz.isAgg22
  z37 := Tryz.sizeOf22
  v37 := Tryz.zeroValue22
  t46 := Tryz.underlying342
  a46 := Tryz.isAgg342
  z46 := Tryz.sizeOf342
  v46 := Tryz.zeroValue342
  t51 := Tryz.underlying374
  a51 := Tryz.isAgg374
  z51 := Tryz.sizeOf374
  v51 := Tryz.zeroValue374
  t53 := Tryz.underlying367
  a53 := Tryz.isAgg367
  z53 := Tryz.sizeOf367
  v53 := Tryz.zeroValue367
  t171 := Tryz.underlying366
  a171 := Tryz.isAgg366
  z171 := Tryz.sizeOf366
  v171 := Tryz.zeroValue366
  t173 := Tryz.underlying370
  a173 := Tryz.isAgg370
  z173 := Tryz.sizeOf370
  v173 := Tryz.zeroValue370
  t212 := Tryz.underlying373
  a212 := Tryz.isAgg373
  z212 := Tryz.sizeOf373
  v212 := Tryz.zeroValue373
  t213 := Tryz.underlying375
  a213 := Tryz.isAgg375
  z213 := Tryz.sizeOf375
  t232 := Tryz.underlying378
  a232 := Tryz.isAgg378
  z232 := Tryz.sizeOf378
  v232 := Tryz.zeroValue378
  t233 := Tryz.underlying379
  a233 := Tryz.isAgg379
  z233 := Tryz.sizeOf379
  v233 := Tryz.zeroValue379
  g17 := by kernel_rfl
  g18 := by kernel_rfl
  g19 := by kernel_rfl
  i0 := by kernel_rfl
  i2 := by kernel_rfl
  i3 := by kernel_rfl
  i4 := by kernel_rfl
  i5 := by kernel_rfl
  i9 := by kernel_rfl
  i20 := by kernel_rfl
  i37 := by kernel_rfl
  i46 := by kernel_rfl
  i51 := by kernel_rfl
  i53 := by kernel_rfl
  i171 := by kernel_rfl
  i173 := by kernel_rfl
  i212 := by kernel_rfl
  i232 := by kernel_rfl
  i233 := by kernel_rfl
  m17 := by kernel_rfl
  m18 := by kernel_rfl
  m19 := by kernel_rfl }
open Go.RowKit Go.Sort Go.Lib in
theorem Tryz.internal_strconv_Itoa (n : Int) (h0 : -9223372036854775808 ≤ n) (h1 : n ≤ 9223372036854775807) (w : World) (htab : Lib.TabIs Tryz.prog w "internal/strconv.uint64pow10" .u64 Lib.pow10Tab) :
    Calls Tryz.prog 363 #[.int .i64 n] w fun e w' => e = .returned (.string ⟨(Lib.itoa n).toArray⟩) ∧ ∃ k os, w' = grow (w.drewN k) os := Any.internal_strconv_Itoa Tryz.laysM243 n h0 h1 w htab
def Tryz.lays243_ren : Go.Shelf.Ren := ⟨fun | 243 => 363 | 246 => 370 | 283 => 371 | 284 => 372 | 285 => 373 | 286 => 374 | 129 => 376 | 317 => 375 | 318 => 377 | 319 => 378 | 320 => 379 | 337 => 380 | 338 => 381 | n => n, fun | 3 => 3 | 9 => 9 | 2 => 2 | 4 => 4 | 171 => 366 | 0 => 0 | 53 => 367 | 37 => 22 | 5 => 5 | 173 => 370 | 212 => 373 | 51 => 374 | 20 => 20 | 213 => 375 | 46 => 342 | 232 => 378 | 233 => 379 | n => n, fun | 17 => 0 | 18 => 1 | 19 => 2 | n => n⟩
theorem Tryz.lays243 : Go.Proofs.Lays.n243 Tryz.prog Tryz.lays243_ren := {
  mixed := by kernel_rfl
  f129 := Tryz.func376.trans (congrArg some (by kernel_rfl))
  f243 := Tryz.func363.trans (congrArg some (by kernel_rfl))
  f246 := Tryz.func370.trans (congrArg some (by kernel_rfl))
  f283 := Tryz.func371.trans (congrArg some (by kernel_rfl))
  f284 := Tryz.func372.trans (congrArg some (by kernel_rfl))
  f285 := Tryz.func373.trans (congrArg some (by kernel_rfl))
  f286 := Tryz.func374.trans (congrArg some (by kernel_rfl))
  f317 := Tryz.func375.trans (congrArg some (by kernel_rfl))
  f318 := Tryz.func377.trans (congrArg some (by kernel_rfl))
  f319 := Tryz.func378.trans (congrArg some (by kernel_rfl))
  f320 := Tryz.func379.trans (congrArg some (by kernel_rfl))
  f337 := Tryz.func380.trans (congrArg some (by kernel_rfl))
  f338 := Tryz.func381.trans (congrArg some (by kernel_rfl))
  t0 := Tryz.underlying0
  a0 := Tryz.isAgg0
  z0 := Tryz.sizeOf0
  v0 := Tryz.zeroValue0
  t2 := Tryz.underlying2
  a2 := Tryz.isAgg2
  z2 := Tryz.sizeOf2
  v2 := Tryz.zeroValue2
  t3 := Tryz.underlying3
  a3 := Tryz.isAgg3
  z3 := Tryz.sizeOf3
  v3 := Tryz.zeroValue3
  t4 := Tryz.underlying4
  a4 := Tryz.isAgg4
  z4 := Tryz.sizeOf4
  v4 := Tryz.zeroValue4
  t5 := Tryz.underlying5
  a5 := Tryz.isAgg5
  z5 := Tryz.sizeOf5
  v5 := Tryz.zeroValue5
  t9 := Tryz.underlying9
  a9 := Tryz.isAgg9
  z9 := Tryz.sizeOf9
  v9 := Tryz.zeroValue9
  t20 := Tryz.underlying20
  a20 := Tryz.isAgg20
  z20 := Tryz.sizeOf20
  v20 := Tryz.zeroValue20
  t37 := Tryz.underlying22
  a37 := Tryz.isAgg22
  z37 := Tryz.sizeOf22
  v37 := Tryz.zeroValue22
  t46 := Tryz.underlying342
  a46 := Tryz.isAgg342
  z46 := Tryz.sizeOf342
  v46 := Tryz.zeroValue342
  t51 := Tryz.underlying374
  a51 := Tryz.isAgg374
  z51 := Tryz.sizeOf374
  v51 := Tryz.zeroValue374
  t53 := Tryz.underlying367
  a53 := Tryz.isAgg367
  z53 := Tryz.sizeOf367
  v53 := Tryz.zeroValue367
  t171 := Tryz.underlying366
  a171 := Tryz.isAgg366
  z171 := Tryz.sizeOf366
  v171 := Tryz.zeroValue366
  t173 := Tryz.underlying370
  a173 := Tryz.isAgg370
  z173 := Tryz.sizeOf370
  v173 := Tryz.zeroValue370
  t212 := Tryz.underlying373
  a212 := Tryz.isAgg373
  z212 := Tryz.sizeOf373
  v212 := Tryz.zeroValue373
  t213 := Tryz.underlying375
  a213 := Tryz.isAgg375
  z213 := Tryz.sizeOf375
  t232 := Tryz.underlying378
  a232 := Tryz.isAgg378
  z232 := Tryz.sizeOf378
  v232 := Tryz.zeroValue378
  t233 := Tryz.underlying379
  a233 := Tryz.isAgg379
  z233 := Tryz.sizeOf379
  v233 := Tryz.zeroValue379
  g17 := by kernel_rfl
  g18 := by kernel_rfl
  g19 := by kernel_rfl }
open Go.RowKit Go.Sort Go.Lib in
theorem Tryz.internal_strconv_Itoa_small (i : Nat) (hi : i < 100) (w : World) :
    Calls Tryz.prog 363 #[.int .i64 i] w fun e w' => e = .returned (.string ⟨(Lib.decDigits i).toArray⟩) ∧ w' = w := Any.internal_strconv_Itoa_small Tryz.lays243 i hi w
def Tryz.laysM171_ren : Go.Shelf.Ren := ⟨fun | 171 => 351 | 243 => 363 | 246 => 370 | 283 => 371 | 284 => 372 | 285 => 373 | 286 => 374 | 129 => 376 | 317 => 375 | 318 => 377 | 319 => 378 | 320 => 379 | 337 => 380 | 338 => 381 | n => n, fun | 3 => 3 | 9 => 9 | 2 => 2 | 4 => 4 | 171 => 366 | 0 => 0 | 53 => 367 | 37 => 22 | 5 => 5 | 173 => 370 | 212 => 373 | 51 => 374 | 20 => 20 | 213 => 375 | 46 => 342 | 232 => 378 | 233 => 379 | n => n, fun | 17 => 0 | 18 => 1 | 19 => 2 | n => n⟩
theorem Tryz.laysM171 : Go.Proofs.LaysM.n171 Tryz.prog Tryz.laysM171_ren := {
  mixed := by kernel_rfl
  f129 := Tryz.func376.trans (congrArg some (by kernel_rfl))
  f171 := Tryz.func351.trans (congrArg some (by kernel_rfl))
  f243 := Tryz.func363.trans (congrArg some (by kernel_rfl))
  f246 := Tryz.func370.trans (congrArg some (by kernel_rfl))
  f283 := Tryz.func371.trans (congrArg some (by kernel_rfl))
  f284 := Tryz.func372.trans (congrArg some (by kernel_rfl))
  f285 := Tryz.func373.trans (congrArg some (by kernel_rfl))
  f286 := Tryz.func374.trans (congrArg some (by kernel_rfl))
  f317 := Tryz.func375.trans (congrArg some (by kernel_rfl))
  f318 := Tryz.func377.trans (congrArg some (by kernel_rfl))
  f319 := Tryz.func378.trans (congrArg some (by kernel_rfl))
  f320 := Tryz.func379.trans (congrArg some (by kernel_rfl))
  f337 := Tryz.func380.trans (congrArg some (by kernel_rfl))
  f338 := Tryz.func381.trans (congrArg some (by kernel_rfl))
  t0 := Tryz.underlying0
  a0 := Tryz.isAgg0
  z0 := Tryz.sizeOf0
  v0 := Tryz.zeroValue0
  t2 := Tryz.underlying2
  a2 := Tryz.isAgg2
  z2 := Tryz.sizeOf2
  v2 := Tryz.zeroValue2
  t3 := Tryz.underlying3
  a3 := Tryz.isAgg3
  z3 := Tryz.sizeOf3
  v3 := Tryz.zeroValue3
  t4 := Tryz.underlying4
  a4 := Tryz.isAgg4
  z4 := Tryz.sizeOf4
  v4 := Tryz.zeroValue4
  t5 := Tryz.underlying5
  a5 := Tryz.isAgg5
  z5 := Tryz.sizeOf5
  v5 := Tryz.zeroValue5
  t9 := Tryz.underlying9
  a9 := Tryz.isAgg9
  z9 := Tryz.sizeOf9
  v9 := Tryz.zeroValue9
  t20 := Tryz.underlying20
  a20 := Tryz.isAgg20
  z20 := Tryz.sizeOf20
  v20 := Tryz.zeroValue20
  t37 := Tryz.underlying22
  a37 := Tryz.isAgg22
  z37 := Tryz.sizeOf22
  v37 := Tryz.zeroValue22
  t46 := Tryz.underlying342
  a46 := Tryz.isAgg342
  z46 := Tryz.sizeOf342
  v46 := Tryz.zeroValue342
  t51 := Tryz.underlying374
  a51 := Tryz.isAgg374
  z51 := Tryz.sizeOf374
  v51 := Tryz.zeroValue374
  t53 := Tryz.underlying367
  a53 := Tryz.isAgg367
  z53 := Tryz.sizeOf367
  v53 := Tryz.zeroValue367
  t171 := Tryz.underlying366
  a171 := Tryz.isAgg366
  z171 := Tryz.sizeOf366
  v171 := Tryz.zeroValue366
  t173 := Tryz.underlying370
  a173 := Tryz.isAgg370
  z173 := Tryz.sizeOf370
  v173 := Tryz.zeroValue370
  t212 := Tryz.underlying373
  a212 := Tryz.isAgg373
  z212 := Tryz.sizeOf373
  v212 := Tryz.zeroValue373
  t213 := Tryz.underlying375
  a213 := Tryz.isAgg375
  z213 := Tryz.sizeOf375
  t232 := Tryz.underlying378
  a232 := Tryz.isAgg378
  z232 := Tryz.sizeOf378
  v232 := Tryz.zeroValue378
  t233 := Tryz.underlying379
  a233 := Tryz.isAgg379
  z233 := Tryz.sizeOf379
  v233 := Tryz.zeroValue379
  g17 := by kernel_rfl
  g18 := by kernel_rfl
  g19 := by kernel_rfl
  i0 := by kernel_rfl
  i2 := by kernel_rfl
  i3 := by kernel_rfl
  i4 := by kernel_rfl
  i5 := by kernel_rfl
  i9 := by kernel_rfl
  i20 := by kernel_rfl
  i37 := by kernel_rfl
  i46 := by kernel_rfl
  i51 := by kernel_rfl
  i53 := by kernel_rfl
  i171 := by kernel_rfl
  i173 := by kernel_rfl
  i212 := by kernel_rfl
  i232 := by kernel_rfl
  i233 := by kernel_rfl
  m17 := by kernel_rfl
  m18 := by kernel_rfl
  m19 := by kernel_rfl }
open Go.RowKit Go.Sort Go.Lib in
theorem Tryz.strconv_Itoa (n : Int) (h0 : -9223372036854775808 ≤ n) (h1 : n ≤ 9223372036854775807) (w : World) (htab : Lib.TabIs Tryz.prog w "internal/strconv.uint64pow10" .u64 Lib.pow10Tab) :
    Calls Tryz.prog 351 #[.int .i64 n] w fun e w' => e = .returned (.string ⟨(Lib.itoa n).toArray⟩) ∧ ∃ k os, w' = grow (w.drewN k) os := Any.strconv_Itoa Tryz.laysM171 n h0 h1 w htab
def Tryz.lays171_ren : Go.Shelf.Ren := ⟨fun | 171 => 351 | 243 => 363 | 246 => 370 | 283 => 371 | 284 => 372 | 285 => 373 | 286 => 374 | 129 => 376 | 317 => 375 | 318 => 377 | 319 => 378 | 320 => 379 | 337 => 380 | 338 => 381 | n => n, fun | 3 => 3 | 9 => 9 | 2 => 2 | 4 => 4 | 171 => 366 | 0 => 0 | 53 => 367 | 37 => 22 | 5 => 5 | 173 => 370 | 212 => 373 | 51 => 374 | 20 => 20 | 213 => 375 | 46 => 342 | 232 => 378 | 233 => 379 | n => n, fun | 17 => 0 | 18 => 1 | 19 => 2 | n => n⟩
theorem Tryz.lays171 : Go.Proofs.Lays.n171 Tryz.prog Tryz.lays171_ren := {
  mixed := by kernel_rfl
  f129 := Tryz.func376.trans (congrArg some (by kernel_rfl))
  f171 := Tryz.func351.trans (congrArg some (by kernel_rfl))
  f243 := Tryz.func363.trans (congrArg some (by kernel_rfl))
  f246 := Tryz.func370.trans (congrArg some (by kernel_rfl))
  f283 := Tryz.func371.trans (congrArg some (by kernel_rfl))
  f284 := Tryz.func372.trans (congrArg some (by kernel_rfl))
  f285 := Tryz.func373.trans (congrArg some (by kernel_rfl))
  f286 := Tryz.func374.trans (congrArg some (by kernel_rfl))
  f317 := Tryz.func375.trans (congrArg some (by kernel_rfl))
  f318 := Tryz.func377.trans (congrArg some (by kernel_rfl))
  f319 := Tryz.func378.trans (congrArg some (by kernel_rfl))
  f320 := Tryz.func379.trans (congrArg some (by kernel_rfl))
  f337 := Tryz.func380.trans (congrArg some (by kernel_rfl))
  f338 := Tryz.func381.trans (congrArg some (by kernel_rfl))
  t0 := Tryz.underlying0
  a0 := Tryz.isAgg0
  z0 := Tryz.sizeOf0
  v0 := Tryz.zeroValue0
  t2 := Tryz.underlying2
  a2 := Tryz.isAgg2
  z2 := Tryz.sizeOf2
  v2 := Tryz.zeroValue2
  t3 := Tryz.underlying3
  a3 := Tryz.isAgg3
  z3 := Tryz.sizeOf3
  v3 := Tryz.zeroValue3
  t4 := Tryz.underlying4
  a4 := Tryz.isAgg4
  z4 := Tryz.sizeOf4
  v4 := Tryz.zeroValue4
  t5 := Tryz.underlying5
  a5 := Tryz.isAgg5
  z5 := Tryz.sizeOf5
  v5 := Tryz.zeroValue5
  t9 := Tryz.underlying9
  a9 := Tryz.isAgg9
  z9 := Tryz.sizeOf9
  v9 := Tryz.zeroValue9
  t20 := Tryz.underlying20
  a20 := Tryz.isAgg20
  z20 := Tryz.sizeOf20
  v20 := Tryz.zeroValue20
  t37 := Tryz.underlying22
  a37 := Tryz.isAgg22
  z37 := Tryz.sizeOf22
  v37 := Tryz.zeroValue22
  t46 := Tryz.underlying342
  a46 := Tryz.isAgg342
  z46 := Tryz.sizeOf342
  v46 := Tryz.zeroValue342
  t51 := Tryz.underlying374
  a51 := Tryz.isAgg374
  z51 := Tryz.sizeOf374
  v51 := Tryz.zeroValue374
  t53 := Tryz.underlying367
  a53 := Tryz.isAgg367
  z53 := Tryz.sizeOf367
  v53 := Tryz.zeroValue367
  t171 := Tryz.underlying366
  a171 := Tryz.isAgg366
  z171 := Tryz.sizeOf366
  v171 := Tryz.zeroValue366
  t173 := Tryz.underlying370
  a173 := Tryz.isAgg370
  z173 := Tryz.sizeOf370
  v173 := Tryz.zeroValue370
  t212 := Tryz.underlying373
  a212 := Tryz.isAgg373
  z212 := Tryz.sizeOf373
  v212 := Tryz.zeroValue373
  t213 := Tryz.underlying375
  a213 := Tryz.isAgg375
  z213 := Tryz.sizeOf375
  t232 := Tryz.underlying378
  a232 := Tryz.isAgg378
  z232 := Tryz.sizeOf378
  v232 := Tryz.zeroValue378
  t233 := Tryz.underlying379
  a233 := Tryz.isAgg379
  z233 := Tryz.sizeOf379
  v233 := Tryz.zeroValue379
  g17 := by kernel_rfl
  g18 := by kernel_rfl
  g19 := by kernel_rfl }
open Go.RowKit Go.Sort Go.Lib in
theorem Tryz.strconv_Itoa_small (i : Nat) (hi : i < 100) (w : World) :
    Calls Tryz.prog 351 #[.int .i64 i] w fun e w' => e = .returned (.string ⟨(Lib.decDigits i).toArray⟩) ∧ w' = w := Any.strconv_Itoa_small Tryz.lays171 i hi w
def Tryz.lays111_ren : Go.Shelf.Ren := ⟨fun | 111 => 126 | n => n, fun | 28 => 24 | 3 => 3 | 4 => 4 | 0 => 0 | n => n, fun | n => n⟩
theorem Tryz.lays111 : Go.Proofs.Lays.n111 Tryz.prog Tryz.lays111_ren := {
  mixed := by kernel_rfl
  f111 := Tryz.func126.trans (congrArg some (by kernel_rfl))
  t0 := Tryz.underlying0
  a0 := Tryz.isAgg0
  z0 := Tryz.sizeOf0
  v0 := Tryz.zeroValue0
  t3 := Tryz.underlying3
  a3 := Tryz.isAgg3
  z3 := Tryz.sizeOf3
  v3 := Tryz.zeroValue3
  t4 := Tryz.underlying4
  a4 := Tryz.isAgg4
  z4 := Tryz.sizeOf4
  v4 := Tryz.zeroValue4
  t28 := Tryz.underlying24
  a28 := Tryz.isAgg24
  z28 := Tryz.sizeOf24
  v28 := Tryz.zeroValue24 }
open Go.RowKit Go.Lib in
theorem Tryz.slices_Equal_int (b1 o1 n c b2 o2 m d : Nat) (xs ys : List Int) (w : World) (hx : n ≤ xs.length) (hy : m ≤ ys.length) (hbig : n ≤ 9223372036854775807) (hbig2 : m ≤ 9223372036854775807) (hc1 : ∀ j, j < xs.length → w.cell? ⟨b1, o1 + j, none⟩ = some (.int .i64 (xs.getD j 0))) (hc2 : ∀ j, j < ys.length → w.cell? ⟨b2, o2 + j, none⟩ = some (.int .i64 (ys.getD j 0))) :
    Calls Tryz.prog 126 #[.slice (some ⟨b1, o1, none⟩) n c, .slice (some ⟨b2, o2, none⟩) m d] w fun e w' => e = .returned (.bool (xs.take n == ys.take m)) ∧ ∃ q, w' = w.drewN q := Any.slices_Equal_int Tryz.lays111 b1 o1 n c b2 o2 m d xs ys w hx hy hbig hbig2 hc1 hc2
open Go.RowKit Go.Lib in
theorem Tryz.slices_Equal_int_empty (a1 a2 : Option Addr) (c m d : Nat) (w : World) (hbig2 : m ≤ 9223372036854775807) :
    Calls Tryz.prog 126 #[.slice a1 0 c, .slice a2 m d] w fun e w' => e = .returned (.bool (decide (m = 0))) ∧ w' = w := Any.slices_Equal_int_empty Tryz.lays111 a1 a2 c m d w hbig2
def Tryz.laysNm215_ren : Go.Shelf.Ren := ⟨fun | 15 => 91 | n => n, fun | 22 => 24 | 3 => 3 | 4 => 4 | n => n, fun | n => n⟩
theorem Tryz.laysNm215 : Go.Proofs.Lays2.n15 Tryz.prog Tryz.laysNm215_ren := {
  mixed := by kernel_rfl
  f15 := Tryz.func91.trans (congrArg some (by kernel_rfl))
  t3 := Tryz.underlying3
  a3 := Tryz.isAgg3
  z3 := Tryz.sizeOf3
  v3 := Tryz.zeroValue3
  t4 := Tryz.underlying4
  a4 := Tryz.isAgg4
  z4 := Tryz.sizeOf4
  v4 := Tryz.zeroValue4
  t22 := Tryz.underlying24
  a22 := Tryz.isAgg24
  z22 := Tryz.sizeOf24
  v22 := Tryz.zeroValue24
  i3 := by kernel_rfl }
open Go.RowKit Go.Lib in
theorem Tryz.slices_Clone_int (b off n c : Nat) (zs : List Int) (w : World) (hz : n ≤ zs.length) (hbig : n * 8 ≤ 140737488355328) (hc : ∀ j, j < zs.length → w.cell? ⟨b, off + j, none⟩ = some (.int .i64 (zs.getD j 0))) :
    Calls Tryz.prog 91 #[.slice (some ⟨b, off, none⟩) n c] w fun e w' => ∃ v', e = .returned v' ∧ w'.ownsRow w.heap.size 3 1 v' n ((zs.take n).map (Value.int .i64)) ∧ v' ≠ .slice none 0 0 ∧ Below w.heap.size w w' := Any.slices_Clone_int Tryz.laysNm215 b off n c zs w hz hbig hc
open Go.RowKit Go.Lib in
theorem Tryz.slices_Clone_int_nil (n c : Nat) (w : World) :
    Calls Tryz.prog 91 #[.slice none n c] w fun e w' => e = .returned (.slice none 0 0) ∧ w' = w := Any.slices_Clone_int_nil Tryz.laysNm215 n c w
open Go.RowKit Go.Lib in
theorem Tryz.slices_Clone_int_zero (a : Addr) (c : Nat) (w : World) :
    Calls Tryz.prog 91 #[.slice (some a) 0 c] w fun e w' => ∃ v', e = .returned v' ∧ w'.ownsRow w.heap.size 3 1 v' 0 [] ∧ v' ≠ .slice none 0 0 ∧ Below w.heap.size w w' := Any.slices_Clone_int_zero Tryz.laysNm215 a c w
open Go.RowKit Go.Lib in
theorem Tryz.slices_Equal_int_lens (a1 a2 : Option Addr) (n c m d : Nat) (w : World) (hnm : n ≠ m) :
    Calls Tryz.prog 126 #[.slice a1 n c, .slice a2 m d] w fun e w' => e = .returned (.bool false) ∧ w' = w := Any.slices_Equal_int_lens Tryz.lays111 a1 a2 n c m d w hnm
def Tryz.laysSlE041_f91_ren : Go.Shelf.Ren := ⟨fun | 41 => 91 | n => n, fun | 22 => 24 | 23 => 3 | 4 => 4 | n => n, fun | n => n⟩
theorem Tryz.laysSlE041_f91 : Go.Proofs.SlLaysE0.n41 Tryz.prog Tryz.laysSlE041_f91_ren := {
  mixed := by kernel_rfl
  f41 := ⟨Tryz.f91.name, by decide, Tryz.func91.trans (congrArg some (by kernel_rfl))⟩
  t4 := Tryz.underlying4
  a4 := Tryz.isAgg4
  z4 := Tryz.sizeOf4
  v4 := Tryz.zeroValue4
  t22 := Tryz.underlying24
  a22 := Tryz.isAgg24
  z22 := Tryz.sizeOf24
  v22 := Tryz.zeroValue24 }
open Go.RowKit Go.Lib in
theorem Tryz.slices_Clone (i0 : TypeInfo) (z : Value) (size bytes : Nat) (hi : Tryz.prog.info? 3 = some i0) (hz0 : i0.zero = some z) (hz1 : i0.size = size) (hz2 : i0.bytes = bytes) (hzs : z.cells.size = size) (hsz : 0 < size) (z23 : ∀ w, (Go.sizeOf 3).run Tryz.prog w = .ok size w) (b off n c : Nat) (news : List Value) (w : World) (hl : news.length = n * size) (hn : n ≤ maxLen) (hbig : n * bytes ≤ 140737488355328) (hc : ∀ j u, news[j]? = some u → w.cell? ⟨b, off + j, none⟩ = some u) (h1 : ∀ u ∈ news, u.oneCell' = true) :
    Calls Tryz.prog 91 #[.slice (some ⟨b, off, none⟩) n c] w fun e w' => ∃ v', e = .returned v' ∧ w'.ownsRow w.heap.size 3 size v' n news ∧ v' ≠ .slice none 0 0 ∧ Below w.heap.size w w' := AnyE.slices_Clone Tryz.laysSlE041_f91 i0 z size bytes hi hz0 hz1 hz2 hzs hsz z23 b off n c news w hl hn hbig hc h1
open Go.RowKit Go.Lib in
theorem Tryz.slices_Clone_nil (n c : Nat) (w : World) :
    Calls Tryz.prog 91 #[.slice none n c] w fun e w' => e = .returned (.slice none 0 0) ∧ w' = w := AnyE.slices_Clone_nil Tryz.laysSlE041_f91 n c w
end Go.Proofs
end
section
namespace Go.AM
open Go Go.RowKit
set_option maxRecDepth 100000
theorem ins_pure {w : World} {Z : Nat → Prop} {io : Option Io} {ins : List (Mode × TV)} {vals : List Value} {fin : List Nat} (h : InsR P w Z io ins vals fin) (hp : ∀ m ∈ ins, m.1 = Mode.pure) : fin = [] ∧ InsR P w Z none ins vals [] ∧ ∀ w' Z', OutsR P w' Z' none ins vals [] [] := by
  induction h with
  | nil => exact ⟨rfl, .nil, fun _ _ => .nil⟩
  | cons h t ih =>
    rename_i m v x f r xs g
    obtain ⟨h1, h2, h3⟩ := ih fun m hm => hp m (List.mem_cons_of_mem _ hm)
    have hm : m = Mode.pure := hp _ (List.mem_cons_self ..)
    subst hm; subst h1
    cases h with
    | pone h => exact ⟨rfl, .cons (f := []) (.pone h) h2, fun w' Z' => .pure (h3 w' Z')⟩
    | pagg h => exact ⟨rfl, .cons (f := []) (.pagg h) h2, fun w' Z' => .pure (h3 w' Z')⟩
theorem sem_pure {f : Nat} {ins : List (Mode × TV)} {res : TV} (hf : ∃ fn, (P : Program).funcs[f]? = some fn ∧ fn.body.isNone = false ∧ (fn.name == "runtime.NumGoroutine") = false) (hp : ∀ m ∈ ins, m.1 = Mode.pure)
    (h : ∀ (w : World) (Z : Nat → Prop) (vals : List Value), GOk P w Z → InsR P w Z none ins vals [] → (∀ b, Z b → b < w.heap.size) →
      Calls P f vals.toArray w fun e w' => ∃ v fs, e = .returned v ∧ Below w.heap.size w w' ∧ (∀ Z', ResR P w' Z' res v fs) ∧ fs.Nodup ∧ ∀ b ∈ fs, w.heap.size ≤ b ∧ b < w'.heap.size) : Sem P f ins [] res := by
  refine ⟨hf, fun w Z io vals fin hG hI hio hnd hfin hZ => ?_⟩
  obtain ⟨rfl, hI', ho⟩ := ins_pure hI hp
  have hio : io = none := by
    rcases hio with h | ⟨lo, hi, v, hm⟩
    · exact h
    · cases hp _ hm
  subst hio
  refine (h w Z vals hG hI' fun b hb => (hZ b hb).1).mono ?_
  rintro e w' ⟨v, fs, rfl, hb, hr, hn, hfs⟩
  refine ⟨v, rfl, Z, fs, [], ⟨hb.os, hb.tape, hb.output, hb.size, fun k hk _ _ => hb.block k hk, fun i hi => by cases hi⟩, fun b hb => hb, fun b hz => ⟨.inl hz, Nat.lt_of_lt_of_le (hZ b hz).1 hb.size, fun i hi => by cases hi⟩, hr Z, ho _ _, by simpa using hn, fun b hbm => ?_⟩
  have hbm : b ∈ fs := by simpa using hbm
  exact ⟨.inr (hfs b hbm).1, (hfs b hbm).2, fun hz => absurd (hZ b hz).1 (Nat.not_lt.2 (hfs b hbm).1), fun i hi => by cases hi⟩
theorem ins_one {w : World} {Z : Nat → Prop} {io : Option Io} {av : AV} {vals : List Value} {fin : List Nat} (h : InsR P w Z io [(.pure, .one av)] vals fin) : ∃ x, vals = [x] ∧ Rd P w Z av x := by
  cases h with
  | cons h t => cases t; cases h with | pone h => exact ⟨_, rfl, h⟩
theorem ints_flat : ∀ l : List Int, (ints l).flatten = l.map fun n => eI n
  | [] => rfl
  | a :: r => by show eI a :: (ints r).flatten = _; rw [ints_flat r]; rfl
theorem cells_int : (P : Program).cellsOf 3 = 1 := by kernel_rfl
theorem ow_ints {w : World} {Z : Nat → Prop} {v : Value} {l : List Int} {n B : Nat} {cells : List Value} (hm : l.length ≤ 1125899906842624) (ho : w.ownsRow B 3 1 v n cells) (hn : n = l.length) (hc : cells = l.map (Value.int .i64)) : Ow P w Z (.sl 3 (ints l)) v v.ownBlock.toList := by
  subst hn hc
  have h : Ow P w Z (.sl 3 (ints l)) v (v.ownBlock.toList ++ (List.replicate l.length ([] : List Nat)).flatten) := by
    refine .sl (cells := l.map (Value.int .i64)) (by simpa using hm) (by intro row hr; obtain ⟨x, _, rfl⟩ := List.mem_map.1 hr; rw [cells_int]; rfl) ?_ (by simp) ?_
    · rw [cells_int, ints_len]
      refine ⟨ho.1, ?_⟩
      rcases ho.2 with h | ⟨g, cap, cur, h1, h2, h3⟩
      · exact .inl h
      · exact .inr ⟨g, cap, cur, h1, Nat.zero_le _, h3⟩
    · intro k av x f h1 h2 h3
      rw [ints_flat] at h1
      simp only [List.getElem?_map] at h1 h2
      cases hl : l[k]? with
      | none => rw [hl] at h1; cases h1
      | some n =>
        rw [hl] at h1 h2
        obtain rfl := Option.some.inj h1
        obtain rfl := Option.some.inj h2
        have : f = [] := List.eq_of_mem_replicate (List.mem_of_getElem? h3)
        subst this
        exact .prim rfl
  simpa using h
theorem rd_ints {w : World} {Z : Nat → Prop} {v : Value} {l : List Int} (h : Rd P w Z (.sl 3 (ints l)) v) : ∃ a cap, v = .slice a l.length cap ∧ (l ≠ [] → ∃ b o, a = some ⟨b, o, none⟩) ∧ ∀ b o, a = some ⟨b, o, none⟩ → ∀ j, j < l.length → w.cell? ⟨b, o + j, none⟩ = some (.int .i64 (l.getD j 0)) := by
  cases h with
  | sl hm hl hcap hw hn hb hc hr =>
    rename_i a len cap cells
    subst hl
    rw [ints_len] at *
    refine ⟨a, cap, rfl, fun hl => ?_, fun b o e j hj => ?_⟩
    · obtain ⟨b, o, e', _⟩ := hb (by simpa using hl)
      exact ⟨b, o, e'⟩
    · rw [cells_int, Nat.mul_one] at hn
      have hj' : j < cells.length := by omega
      have h1 := hr j (eI (l.getD j 0)) cells[j] (by rw [ints_flat, List.getElem?_map, List.getElem?_eq_getElem hj, List.getD_eq_getElem?_getD, List.getElem?_eq_getElem hj]; rfl) (List.getElem?_eq_getElem hj')
      have h2 := hc b o j cells[j] e (List.getElem?_eq_getElem hj')
      generalize cells[j] = x at h1 h2
      cases h1
      exact h2
theorem ownB_nodup (v : Value) : v.ownBlock.toList.Nodup := by cases v.ownBlock <;> simp
theorem ownB_new {w : World} {B e size n : Nat} {v : Value} {xs : List Value} (h : w.ownsRow B e size v n xs) : ∀ b ∈ v.ownBlock.toList, B ≤ b ∧ b < w.heap.size := by
  intro b hb
  rcases h.2 with ⟨rfl, _⟩ | ⟨g, cap, cur, rfl, h1, h2, _⟩
  · simp [Value.ownBlock] at hb
  · simp [Value.ownBlock] at hb
    subst hb
    exact ⟨h1, (Array.getElem?_eq_some_iff.1 h2).1⟩
theorem ints_clone (l : List Int) (hl : l.length ≤ 100000) : Sem P 91 [(.pure, .one (.sl 3 (ints l)))] [] (.one (.sl 3 (ints l))) := by
  refine sem_pure (by refine ⟨Go.Proofs.Tryz.f91, ?_, ?_, ?_⟩ <;> kernel_rfl) (by simp) fun w Z vals hG hI hZ => ?_
  obtain ⟨x, rfl, hx⟩ := ins_one hI
  obtain ⟨a, cap, rfl, h0, hc⟩ := rd_ints hx
  cases a with
  | none =>
    have hl0 : l = [] := by
      by_cases hl : l = []
      · exact hl
      · obtain ⟨b, o, e⟩ := h0 hl; cases e
    subst hl0
    refine (Go.Proofs.Tryz.slices_Clone_int_nil _ _ w).mono ?_
    rintro e w' ⟨rfl, rfl⟩
    exact ⟨_, [], rfl, Below.refl _ _, fun Z' => .one (ow_ints (cells := []) (B := 0) (by simp) (World.ownsRow_nil _ _ _ _) rfl rfl), by simp, by simp⟩
  | some p =>
    by_cases hl0 : l = []
    · subst hl0
      refine (Go.Proofs.Tryz.slices_Clone_int_zero p _ w).mono ?_
      rintro e w' ⟨v, rfl, ho, hn, hb⟩
      refine ⟨v, v.ownBlock.toList, rfl, hb, fun Z' => .one (ow_ints (by simp) ho rfl rfl), ownB_nodup _, ownB_new ho⟩
    · obtain ⟨b, o, e⟩ := h0 hl0
      obtain rfl := Option.some.inj e
      refine (Go.Proofs.Tryz.slices_Clone_int b o l.length cap l w (Nat.le_refl _) (by omega) (hc b o rfl)).mono ?_
      rintro e w' ⟨v, rfl, ho, hn, hb⟩
      refine ⟨v, v.ownBlock.toList, rfl, hb, fun Z' => .one (ow_ints (by omega) ho rfl (by simp)), ownB_nodup _, ownB_new ho⟩
end Go.AM
end
section
namespace Cc
open Go Go.AM
set_option maxRecDepth 100000
set_option maxHeartbeats 4000000
theorem dot_take : ∀ {a b : List Int} {i : Nat}, i < a.length → i < b.length → dot (a.take (i + 1)) (b.take (i + 1)) = dot (a.take i) (b.take i) + a.getD i 0 * b.getD i 0
  | [], _, _, h, _ => by simp at h
  | _ :: _, [], _, _, h => by simp at h
  | x :: a, y :: b, 0, _, _ => by simp [dot]
  | x :: a, y :: b, i + 1, h, h' => by
    have := dot_take (a := a) (b := b) (i := i) (by simpa using h) (by simpa using h')
    simp only [List.take_succ_cons, dot, List.getD_cons_succ] at this ⊢
    omega
theorem getD_bd {l : List Int} {m : Int} (h : ∀ x ∈ l, -m ≤ x ∧ x ≤ m) {i : Nat} (hi : i < l.length) : -m ≤ l.getD i 0 ∧ l.getD i 0 ≤ m := by
  rw [List.getD_eq_getElem?_getD, List.getElem?_eq_getElem hi]
  exact h _ (List.getElem_mem hi)
theorem impl_dot (a b : List Int) (hl : a.length ≤ 3) (hab : a.length = b.length) (ha : ∀ x ∈ a, -10000000 ≤ x ∧ x ≤ 10000000) (hb' : ∀ x ∈ b, -10000000000 ≤ x ∧ x ≤ 10000000000) : Sem P 195 [(.pure, AI a), (.pure, AI b)] [] (I (dot a b)) := by
  refine fn_okR (E := E0) E0_tab E0_ord (fn := Go.Proofs.Tryz.f195) (by kernel_rfl) (by kernel_rfl) (fun hb => ?_)
  have la := ints_len a
  have lb := ints_len b
  conv => whnf
  (repeat' first | (refine Sq.cons ?_; conv => whnf) | (refine Dr.cons ?_; conv => whnf) | (refine Sq.nil ?_; conv => whnf) | (refine Dr.nil ?_; refine drawIf (by kernel_rfl) ?_; conv => whnf) | refine Vc.seq ?_ | (refine Vc.region rfl ?_; conv => whnf) | (refine Vc.draw rfl (by kernel_rfl) ?_; conv => whnf) | (refine Vc.cond ?_; conv => whnf) | refine Vc.block ?_ | (refine Vc.ret ?_; conv => whnf) | (refine Vc.skip ?_; conv => whnf) | (refine Vc.exit ?_; conv => whnf) | (refine mkSl (by omega) (by omega) ?_; conv => whnf))
  refine Vc.loop2 (fun (i : Nat) (n : Int) => i ≤ a.length ∧ n = dot (a.take i) (b.take i) ∧ -(i * 100000000000000000 : Int) ≤ n ∧ n ≤ i * 100000000000000000) (fun i n => updL [1, 4, 8, 9, 24] [(10, I i), (5, I n)] []) (fun i _ => a.length - i) 0 0 ⟨by omega, by simp [dot], by simp, by simp⟩ ?_ (fun i n hi => ?_)
  · repeat' (first | exact True.intro | ((conv => whnf); first | exact True.intro | refine ⟨by rfl, ?_⟩ | refine ⟨?_, ?_⟩))
  · obtain ⟨hi, hn, h1, h2⟩ := hi
    conv => whnf
    (repeat' first | (refine Sq.cons ?_; conv => whnf) | (refine Dr.cons ?_; conv => whnf) | (refine Sq.nil ?_; conv => whnf) | (refine Dr.nil ?_; refine drawIf (by kernel_rfl) ?_; conv => whnf) | refine Vc.seq ?_ | (refine Vc.region rfl ?_; conv => whnf) | (refine Vc.draw rfl (by kernel_rfl) ?_; conv => whnf) | (refine Vc.cond ?_; conv => whnf) | refine Vc.block ?_ | (refine Vc.ret ?_; conv => whnf) | (refine Vc.skip ?_; conv => whnf) | (refine Vc.exit ?_; conv => whnf) | (refine mkSl (by omega) (by omega) ?_; conv => whnf))
    refine ifB_d (fun g => ?_) (fun g => ?_)
    all_goals conv => whnf
    · have e := dot_take (a := a) (b := b) (i := i) (by omega) (by omega)
      have p := mul_bd (getD_bd ha (i := i) (by omega)) (getD_bd hb' (i := i) (by omega))
      repeat' first | (refine Sq.cons ?_; conv => whnf) | (refine Dr.cons ?_; conv => whnf) | (refine Sq.nil ?_; conv => whnf) | (refine Dr.nil ?_; refine drawIf (by kernel_rfl) ?_; conv => whnf) | refine Vc.seq ?_ | (refine Vc.region rfl ?_; conv => whnf) | (refine Vc.draw rfl (by kernel_rfl) ?_; conv => whnf) | (refine Vc.cond ?_; conv => whnf) | refine Vc.block ?_ | (refine Vc.ret ?_; conv => whnf) | (refine Vc.skip ?_; conv => whnf) | (refine Vc.exit ?_; conv => whnf) | (refine mkSl (by omega) (by omega) ?_; conv => whnf) | (refine ifB_i (fun _ => ?_) (fun _ => ?_) <;> conv => whnf) | (refine ixN (enc := rI) 0 (by omega) ?_; conv => whnf) | (refine w64 (by omega) (by omega) ?_; conv => whnf)
      refine ⟨i + 1, n + a.getD i 0 * b.getD i 0, ⟨by omega, by omega, by omega, by omega⟩, by simp only; omega, ?_⟩
      repeat' (first | exact True.intro | ((conv => whnf); first | exact True.intro | refine ⟨by rfl, ?_⟩ | refine ⟨?_, ?_⟩))
    · (repeat' first | (refine Sq.cons ?_; conv => whnf) | (refine Dr.cons ?_; conv => whnf) | (refine Sq.nil ?_; conv => whnf) | (refine Dr.nil ?_; refine drawIf (by kernel_rfl) ?_; conv => whnf) | refine Vc.seq ?_ | (refine Vc.region rfl ?_; conv => whnf) | (refine Vc.draw rfl (by kernel_rfl) ?_; conv => whnf) | (refine Vc.cond ?_; conv => whnf) | refine Vc.block ?_ | (refine Vc.ret ?_; conv => whnf) | (refine Vc.skip ?_; conv => whnf) | (refine Vc.exit ?_; conv => whnf) | (refine mkSl (by omega) (by omega) ?_; conv => whnf))
      have e : i = a.length := by omega
      subst e
      rw [List.take_length, hab, List.take_length] at hn
      exact rI' hn
theorem dot_bd {a b : List Int} (hl : a.length ≤ 3) {m k : Int} (ha : ∀ x ∈ a, -m ≤ x ∧ x ≤ m) (hb : ∀ x ∈ b, -k ≤ x ∧ x ≤ k) (hm : 0 ≤ m * k) : -(3 * (m * k)) ≤ dot a b ∧ dot a b ≤ 3 * (m * k) := by
  match a, b, hl with
  | [], _, _ => simp [dot]; omega
  | _ :: _, [], _ => simp [dot]; omega
  | [x], y :: b, _ =>
    have := mul_bd (ha x (by simp)) (hb y (by simp))
    simp only [dot]; omega
  | [x, x'], [y], _ =>
    have := mul_bd (ha x (by simp)) (hb y (by simp))
    simp only [dot]; omega
  | [x, x'], y :: y' :: b, _ =>
    have := mul_bd (ha x (by simp)) (hb y (by simp))
    have := mul_bd (ha x' (by simp)) (hb y' (by simp))
    simp only [dot]; omega
  | [x, x', x''], [y], _ =>
    have := mul_bd (ha x (by simp)) (hb y (by simp))
    simp only [dot]; omega
  | [x, x', x''], [y, y'], _ =>
    have := mul_bd (ha x (by simp)) (hb y (by simp))
    have := mul_bd (ha x' (by simp)) (hb y' (by simp))
    simp only [dot]; omega
  | [x, x', x''], y :: y' :: y'' :: b, _ =>
    have := mul_bd (ha x (by simp)) (hb y (by simp))
    have := mul_bd (ha x' (by simp)) (hb y' (by simp))
    have := mul_bd (ha x'' (by simp)) (hb y'' (by simp))
    simp only [dot]; omega
theorem impl_at (f : Form) (vals args : List Int) (hf : f.bd 10000000) (hv : nums vals 3) (ha : nums args 2) : Sem P 98 [(.pure, .agg (aF f)), (.pure, AI vals), (.pure, AI args)] [] (I (f.at vals args)) := by
  have b1 := dot_bd (a := f.C) (b := vals) (by rw [hf.1.1]; decide) hf.2.1 hv.2 (by decide)
  have b2 := dot_bd (a := f.D) (b := args) (by rw [hf.1.2]; decide) hf.2.2.1 ha.2 (by decide)
  have b3 := hf.2.2.2
  refine fn_okR (E := E0) E0_tab E0_ord (fn := Go.Proofs.Tryz.f98) (by kernel_rfl) (by kernel_rfl) (fun hb => ?_)
  conv => whnf
  repeat' first | (refine Sq.cons ?_; conv => whnf) | (refine Dr.cons ?_; conv => whnf) | (refine Sq.nil ?_; conv => whnf) | (refine Dr.nil ?_; refine drawIf (by kernel_rfl) ?_; conv => whnf) | refine Vc.seq ?_ | (refine Vc.region rfl ?_; conv => whnf) | (refine Vc.draw rfl (by kernel_rfl) ?_; conv => whnf) | (refine Vc.cond ?_; conv => whnf) | refine Vc.block ?_ | (refine Vc.ret ?_; conv => whnf) | (refine Vc.skip ?_; conv => whnf) | (refine Vc.exit ?_; conv => whnf) | (refine mkSl (by omega) (by omega) ?_; conv => whnf) | (refine ifB_i (fun _ => ?_) (fun _ => ?_) <;> conv => whnf) | (refine ⟨_, impl_dot f.C vals (by rw [hf.1.1]; decide) (by rw [hf.1.1, hv.1]) hf.2.1 hv.2, ?_⟩; conv => whnf) | (refine ⟨_, impl_dot f.D args (by rw [hf.1.2]; decide) (by rw [hf.1.2, ha.1]) hf.2.2.1 ha.2, ?_⟩; conv => whnf) | (refine w64 (by omega) (by omega) ?_; conv => whnf)
  exact ⟨rfl, rfl⟩
theorem go_at (args : List Int) {act : List Line} {i : Nat} (own tells : List Int) (h : i < act.length) : goLines args (act.drop i) own tells =
    if (act.getD i default).Kind = 4 then none
    else if (act.getD i default).Kind = 1 then (if (act.getD i default).Form.at own args < 0 then goLines args (act.drop (i + 1 + (act.getD i default).Skip.toNat)) own tells else goLines args (act.drop (i + 1)) own tells)
    else if (act.getD i default).Kind = 2 then goLines args (act.drop (i + 1)) (own.set (act.getD i default).Pot.toNat (own.getD (act.getD i default).Pot.toNat 0 + (act.getD i default).Form.at own args)) tells
    else goLines args (act.drop (i + 1)) own (tells ++ [(act.getD i default).Form.at own args]) := by
  rw [List.drop_eq_getElem_cons h, goLines, List.drop_drop]
  have e : act.getD i default = act[i] := by rw [List.getD_eq_getElem?_getD, List.getElem?_eq_getElem h]; rfl
  rw [e]
theorem go_end (args : List Int) {act : List Line} {i : Nat} (own tells : List Int) (h : act.length ≤ i) : goLines args (act.drop i) own tells = some (own, tells) := by
  rw [List.drop_eq_nil_of_le h, goLines]
def bnd : Nat → Int
  | 0 => 10000
  | k + 1 => 7 * bnd k + 74
theorem bnd_ge : ∀ k, 10000 ≤ bnd k
  | 0 => by decide
  | k + 1 => by have := bnd_ge k; simp only [bnd]; omega
theorem bnd_mono {i j : Nat} (h : i ≤ j) : bnd i ≤ bnd j := by
  induction j with
  | zero => obtain rfl : i = 0 := by omega
            exact Int.le_refl _
  | succ j ih =>
    by_cases e : i = j + 1
    · rw [e]; exact Int.le_refl _
    · have := ih (by omega)
      have := bnd_ge j
      simp only [bnd]; omega
theorem bnd_le {i : Nat} (h : i ≤ 6) : bnd i ≤ 2000000000 := Int.le_trans (bnd_mono h) (by decide)
def potsB (own : List Int) (i : Nat) : Prop := own.length = 3 ∧ ∀ x ∈ own, -bnd i ≤ x ∧ x ≤ bnd i
theorem potsB.nums {own : List Int} {i : Nat} (h : potsB own i) (hi : i ≤ 6) : nums own 3 := ⟨h.1, fun x hx => by have := h.2 x hx; have := bnd_le hi; omega⟩
theorem potsB.mono {own : List Int} {i j : Nat} (h : potsB own i) (hi : i ≤ j) : potsB own j := ⟨h.1, fun x hx => by have := h.2 x hx; have := bnd_mono hi; omega⟩
theorem potsB.zero {own : List Int} (h : valOk own = true) : potsB own 0 := by
  obtain ⟨h1, h2⟩ := within_iff.1 h
  exact ⟨h1, fun x hx => h2 x hx⟩
theorem arg_nums {args : List Int} (h : argOk args = true) : nums args 2 := by
  obtain ⟨h1, h2⟩ := within_iff.1 h
  exact ⟨h1, fun x hx => by have := h2 x hx; omega⟩
theorem arg_bd {args : List Int} (h : argOk args = true) : ∀ x ∈ args, -9 ≤ x ∧ x ≤ 9 := (within_iff.1 h).2
theorem line_form {x : Line} (h : x.ok = true) (h4 : ¬ x.Kind = 4) : x.Form.small = true := by
  unfold Line.ok at h
  split at h
  · simp at h; exact h.2
  · split at h
    · simp at h; exact h.2
    · split at h
      · simp at h; exact h.2
      · simp_all
theorem small_form {f : Form} (h : f.small = true) : f.bd 10000000 ∧ (∀ x ∈ f.C, -2 ≤ x ∧ x ≤ 2) ∧ (∀ x ∈ f.D, -2 ≤ x ∧ x ≤ 2) ∧ -20 ≤ f.K ∧ f.K ≤ 20 := by
  obtain ⟨a, b, c, d, e, k, rfl, ha, hb, hc, hd, he, hk⟩ := small_bd h
  refine ⟨bdI (by omega) (by omega) (by omega) (by omega) (by omega) (by omega), by simp; omega, by simp; omega, by simp; omega⟩
theorem at_small {f : Form} {own args : List Int} {i : Nat} (hf : f.small = true) (ho : potsB own i) (ha : argOk args = true) : -(6 * bnd i + 74) ≤ f.at own args ∧ f.at own args ≤ 6 * bnd i + 74 := by
  obtain ⟨h0, h1, h2, h3⟩ := small_form hf
  have hb := bnd_ge i
  have p1 := dot_bd (a := f.C) (b := own) (by rw [h0.1.1]; decide) h1 ho.2 (by omega)
  have p2 := dot_bd (a := f.D) (b := args) (by rw [h0.1.2]; decide) h2 (arg_bd ha) (by decide)
  simp only [Form.at]; omega
theorem potsB.set {own : List Int} {i : Nat} {p : Nat} {n : Int} (h : potsB own i) (hn : -(6 * bnd i + 74) ≤ n ∧ n ≤ 6 * bnd i + 74) (hp : p < 3) : potsB (own.set p (own.getD p 0 + n)) (i + 1) := by
  have hb := bnd_ge i
  have hq := getD_bd h.2 (i := p) (by rw [h.1]; exact hp)
  refine ⟨by rw [List.length_set]; exact h.1, fun x hx => ?_⟩
  rcases List.mem_or_eq_of_mem_set hx with h' | rfl
  · have := h.2 x h'; simp only [bnd]; omega
  · simp only [bnd]; omega
end Cc
end
section
namespace Cc
open Go Go.AM
set_option maxRecDepth 100000
set_option maxHeartbeats 4000000
theorem ixE {α : Type} {L : List α} {enc : α → List AV} {i : Nat} {x : α} {k : List AV → Prop} (h : L[i]? = some x) (hk : k (enc x)) : 0 ≤ (i : Int) ∧ ∃ row, (L.map enc)[((i : Int)).toNat]? = some row ∧ k row :=
  ⟨by omega, _, by rw [Int.toNat_natCast, List.getElem?_map, h]; rfl, hk⟩
theorem prim_ints (l : List Int) : allPrim (ints l) := by
  intro row hr a ha
  obtain ⟨n, _, rfl⟩ := List.mem_map.1 hr
  exact ⟨_, List.mem_singleton.1 ha⟩
theorem apP {r : List (List AV)} {k q : Prop} (h : allPrim r) (hk : k) : allPrim r ∧ k ∨ q := .inl ⟨h, hk⟩
theorem set_ints (l : List Int) (i : Nat) (n : Int) : (ints l).set i (rI n) = ints (l.set i n) := List.map_set.symm
theorem app_ints (l : List Int) (n : Int) : ints l ++ [rI n] = ints (l ++ [n]) := by simp
theorem apN {a : Nat} {k : Prop} (h : a ≤ 1048576) (hk : k) : a ≤ 1048576 ∧ k := ⟨h, hk⟩
theorem impl_actRun (act : List Line) (vals args : List Int) : Sem P 20 [(.pure, .one (sLs act)), (.pure, AI vals), (.pure, AI args)] [] (.tup [(true, aR (actRun act vals args).1), (false, [sI (actRun act vals args).2])]) := by
  refine fn_okR (E := { E0 with keep := [4001, 11002, 22002] }) E0_tab E0_ord (fn := Go.Proofs.Tryz.f20) (by kernel_rfl) (by kernel_rfl) (fun hb => ?_)
  have la : (act.map eL).length = act.length := List.length_map ..
  by_cases hall : (actOk act && valOk vals && argOk args) = true
  · obtain ⟨⟨ha, hv⟩, hg⟩ : (actOk act = true ∧ valOk vals = true) ∧ argOk args = true := by simpa using hall
    have hlen : vals.length ≤ 100000 := by rw [(potsB.zero hv).1]; decide
    have e0 : actRun act vals args = endOf vals (goLines args act vals []) := by rw [actRun, if_pos hall]
    obtain ⟨hlines, h6, _⟩ := actOk_iff.1 ha
    rw [e0]
    conv => whnf
    repeat' first | (refine Sq.cons ?_; conv => whnf) | (refine Dr.cons ?_; conv => whnf) | (refine Sq.nil ?_; conv => whnf) | (refine Dr.nil ?_; refine drawIf (by kernel_rfl) ?_; conv => whnf) | refine Vc.seq ?_ | (refine Vc.region rfl ?_; conv => whnf) | (refine Vc.draw rfl (by kernel_rfl) ?_; conv => whnf) | (refine Vc.cond ?_; conv => whnf) | refine Vc.block ?_ | (refine Vc.ret ?_; conv => whnf) | (refine Vc.skip ?_; conv => whnf) | (refine Vc.exit ?_; conv => whnf) | (refine mkSl (by omega) (by omega) ?_; conv => whnf) | (refine ifB_i (fun _ => ?_) (fun _ => ?_) <;> conv => whnf) | (refine ⟨_, impl_actOk _, ?_⟩; conv => whnf) | (refine ⟨_, impl_valOk _, ?_⟩; conv => whnf) | (refine ⟨_, impl_argOk _, ?_⟩; conv => whnf) | (refine ⟨_, ints_clone vals hlen, ?_⟩; conv => whnf)
    · rename_i h; rw [ha] at h; cases h
    · rename_i h; rw [hv] at h; cases h
    · rename_i h; rw [hg] at h; cases h
    · refine Vc.loop3 (fun (i : Nat) (own tells : List Int) => i ≤ 12 ∧ potsB own (min i 6) ∧ tells.length ≤ i ∧ goLines args act vals [] = goLines args (act.drop i) own tells) (fun i own tells => updL [0, 1, 2, 6, 8, 76, 77, 78, 79, 80, 81, 82, 83, 84] [(10, I i), (9, .one (.ref 320000))] [(256064, .arr 3 (ints own) false), (320000, .arr 3 (ints tells) false)]) (fun i _ _ => 12 - i) 0 vals [] ⟨by omega, potsB.zero hv, by simp, rfl⟩ ?_ (fun i own tells hi => ?_)
      · repeat' (first | exact True.intro | ((conv => whnf); first | exact True.intro | refine ⟨by rfl, ?_⟩ | refine ⟨?_, ?_⟩))
      · obtain ⟨hi, ho, ht, hgo⟩ := hi
        have lt := ints_len tells
        conv => whnf
        (repeat' first | (refine Sq.cons ?_; conv => whnf) | (refine Dr.cons ?_; conv => whnf) | (refine Sq.nil ?_; conv => whnf) | (refine Dr.nil ?_; refine drawIf (by kernel_rfl) ?_; conv => whnf) | refine Vc.seq ?_ | (refine Vc.region rfl ?_; conv => whnf) | (refine Vc.draw rfl (by kernel_rfl) ?_; conv => whnf) | (refine Vc.cond ?_; conv => whnf) | refine Vc.block ?_ | (refine Vc.ret ?_; conv => whnf) | (refine Vc.skip ?_; conv => whnf) | (refine Vc.exit ?_; conv => whnf) | (refine mkSl (by omega) (by omega) ?_; conv => whnf))
        refine ifB_d (fun g => ?_) (fun g => ?_)
        all_goals conv => whnf
        · have hi6 : i < act.length := by omega
          have hm : min i 6 = i := by omega
          rw [hm] at ho
          rw [go_at args own tells hi6] at hgo
          obtain ⟨x, hxi⟩ : ∃ x, act[i]? = some x := ⟨_, List.getElem?_eq_getElem hi6⟩
          have hx : x.ok = true := hlines _ (List.mem_of_getElem? hxi)
          have ex : act.getD i default = x := by rw [List.getD_eq_getElem?_getD, hxi]; rfl
          rw [ex] at hgo
          have hkind := line_kind hx
          have hsk := line_skip hx
          have hpo := line_pot hx
          have hfo := line_form hx
          obtain ⟨kind, pot, skip, form⟩ := x
          simp only at hkind hsk hpo hfo hgo
          rcases hkind with rfl | rfl | rfl | rfl
          · have hs := hfo (by decide)
            have hsk := hsk rfl
            have q := at_small hs ho hg
            simp only [Int.reduceEq, if_false, if_true] at hgo
            repeat' first | (refine Sq.cons ?_; conv => whnf) | (refine Dr.cons ?_; conv => whnf) | (refine Sq.nil ?_; conv => whnf) | (refine Dr.nil ?_; refine drawIf (by kernel_rfl) ?_; conv => whnf) | refine Vc.seq ?_ | (refine Vc.region rfl ?_; conv => whnf) | (refine Vc.draw rfl (by kernel_rfl) ?_; conv => whnf) | (refine Vc.cond ?_; conv => whnf) | refine Vc.block ?_ | (refine Vc.ret ?_; conv => whnf) | (refine Vc.skip ?_; conv => whnf) | (refine Vc.exit ?_; conv => whnf) | (refine mkSl (by omega) (by omega) ?_; conv => whnf) | (refine ifB_i (fun _ => ?_) (fun _ => ?_) <;> conv => whnf) | (refine ixE (enc := eL) hxi ?_; conv => whnf) | (refine ⟨_, impl_at form own args (small_form hs).1 (ho.nums (by omega)) (arg_nums hg), ?_⟩; conv => whnf) | (refine w64 (by first | omega | (dsimp only; omega)) (by first | omega | (dsimp only; omega)) ?_; conv => whnf)
            · rename_i h
              have h : form.at own args < 0 := by simpa using h
              rw [if_pos h] at hgo
              refine ⟨i + 1 + skip.toNat, own, tells, ⟨by omega, ho.mono (by omega), by omega, hgo⟩, by simp only; omega, ?_⟩
              repeat' (first | exact True.intro | ((conv => whnf); first | exact True.intro | refine ⟨by rfl, ?_⟩ | refine ⟨by first | omega | (show (_ : Int) = _; dsimp only; omega), ?_⟩ | refine ⟨?_, ?_⟩))
            · rename_i h
              have h : ¬ form.at own args < 0 := by simpa using h
              rw [if_neg h] at hgo
              refine ⟨i + 1, own, tells, ⟨by omega, ho.mono (by omega), by omega, hgo⟩, by simp only; omega, ?_⟩
              repeat' (first | exact True.intro | ((conv => whnf); first | exact True.intro | refine ⟨by rfl, ?_⟩ | refine ⟨?_, ?_⟩))
          · have hs := hfo (by decide)
            have hpo := hpo rfl
            have q := at_small hs ho hg
            have q2 := getD_bd ho.2 (i := pot.toNat) (by rw [ho.1]; omega)
            have q3 := bnd_le (i := i) (by omega)
            have lo := ho.1
            simp only [Int.reduceEq, if_false, if_true] at hgo
            repeat' first | (refine Sq.cons ?_; conv => whnf) | (refine Dr.cons ?_; conv => whnf) | (refine Sq.nil ?_; conv => whnf) | (refine Dr.nil ?_; refine drawIf (by kernel_rfl) ?_; conv => whnf) | refine Vc.seq ?_ | (refine Vc.region rfl ?_; conv => whnf) | (refine Vc.draw rfl (by kernel_rfl) ?_; conv => whnf) | (refine Vc.cond ?_; conv => whnf) | refine Vc.block ?_ | (refine Vc.ret ?_; conv => whnf) | (refine Vc.skip ?_; conv => whnf) | (refine Vc.exit ?_; conv => whnf) | (refine mkSl (by omega) (by omega) ?_; conv => whnf) | (refine ifB_i (fun _ => ?_) (fun _ => ?_) <;> conv => whnf) | (refine ixE (enc := eL) hxi ?_; conv => whnf) | (refine ⟨_, impl_at form own args (small_form hs).1 (ho.nums (by omega)) (arg_nums hg), ?_⟩; conv => whnf) | (refine w64 (by first | omega | (dsimp only; omega)) (by first | omega | (dsimp only; omega)) ?_; conv => whnf) | (refine ioN (by first | omega | (dsimp only; omega)) (by rw [ints_len]; dsimp only; omega) ?_; conv => whnf) | (refine rwN (enc := rI) 0 (by first | omega | (dsimp only; omega)) ?_; conv => whnf) | (refine ixI (enc := rI) 0 (by first | omega | (dsimp only; omega)) (by first | omega | (dsimp only; omega)) ?_; conv => whnf)
            refine ⟨i + 1, own.set pot.toNat (own.getD pot.toNat 0 + form.at own args), tells, ⟨by omega, by rw [show min (i + 1) 6 = i + 1 by omega]; exact ho.set q (by omega), by omega, hgo⟩, by simp only; omega, ?_⟩
            repeat' (first | exact True.intro | ((conv => whnf); first | exact True.intro | refine ⟨by rfl, ?_⟩ | refine ⟨by first | omega | (show (_ : Int) = _; dsimp only; omega) | exact set_ints _ _ _, ?_⟩ | refine ⟨?_, ?_⟩))
          · have hs := hfo (by decide)
            have q := at_small hs ho hg
            simp only [Int.reduceEq, if_false, if_true] at hgo
            repeat' first | (refine Sq.cons ?_; conv => whnf) | (refine Dr.cons ?_; conv => whnf) | (refine Sq.nil ?_; conv => whnf) | (refine Dr.nil ?_; refine drawIf (by kernel_rfl) ?_; conv => whnf) | refine Vc.seq ?_ | (refine Vc.region rfl ?_; conv => whnf) | (refine Vc.draw rfl (by kernel_rfl) ?_; conv => whnf) | (refine Vc.cond ?_; conv => whnf) | refine Vc.block ?_ | (refine Vc.ret ?_; conv => whnf) | (refine Vc.skip ?_; conv => whnf) | (refine Vc.exit ?_; conv => whnf) | (refine mkSl (by omega) (by omega) ?_; conv => whnf) | (refine ifB_i (fun _ => ?_) (fun _ => ?_) <;> conv => whnf) | (refine ixE (enc := eL) hxi ?_; conv => whnf) | (refine ⟨_, impl_at form own args (small_form hs).1 (ho.nums (by omega)) (arg_nums hg), ?_⟩; conv => whnf) | (refine w64 (by first | omega | (dsimp only; omega)) (by first | omega | (dsimp only; omega)) ?_; conv => whnf) | (refine apN (by simp; omega) ?_; conv => whnf) | (refine apP (prim_ints _) ?_; conv => whnf)
            refine ⟨i + 1, own, tells ++ [form.at own args], ⟨by omega, ho.mono (by omega), by rw [List.length_append]; simp; omega, hgo⟩, by simp only; omega, ?_⟩
            repeat' (first | exact True.intro | ((conv => whnf); first | exact True.intro | refine ⟨by rfl, ?_⟩ | refine ⟨by first | omega | (show (_ : Int) = _; dsimp only; omega) | exact app_ints _ _, ?_⟩ | refine ⟨?_, ?_⟩))
          · simp only [Int.reduceEq, if_false, if_true] at hgo
            repeat' first | (refine Sq.cons ?_; conv => whnf) | (refine Dr.cons ?_; conv => whnf) | (refine Sq.nil ?_; conv => whnf) | (refine Dr.nil ?_; refine drawIf (by kernel_rfl) ?_; conv => whnf) | refine Vc.seq ?_ | (refine Vc.region rfl ?_; conv => whnf) | (refine Vc.draw rfl (by kernel_rfl) ?_; conv => whnf) | (refine Vc.cond ?_; conv => whnf) | refine Vc.block ?_ | (refine Vc.ret ?_; conv => whnf) | (refine Vc.skip ?_; conv => whnf) | (refine Vc.exit ?_; conv => whnf) | (refine mkSl (by omega) (by omega) ?_; conv => whnf) | (refine ifB_i (fun _ => ?_) (fun _ => ?_) <;> conv => whnf) | (refine ixE (enc := eL) hxi ?_; conv => whnf) | (refine ⟨_, ints_clone vals hlen, ?_⟩; conv => whnf)
            exact ⟨by rw [hgo]; rfl, rfl⟩
        · rw [go_end args own tells (by omega)] at hgo
          repeat' first | (refine Sq.cons ?_; conv => whnf) | (refine Dr.cons ?_; conv => whnf) | (refine Sq.nil ?_; conv => whnf) | (refine Dr.nil ?_; refine drawIf (by kernel_rfl) ?_; conv => whnf) | refine Vc.seq ?_ | (refine Vc.region rfl ?_; conv => whnf) | (refine Vc.draw rfl (by kernel_rfl) ?_; conv => whnf) | (refine Vc.cond ?_; conv => whnf) | refine Vc.block ?_ | (refine Vc.ret ?_; conv => whnf) | (refine Vc.skip ?_; conv => whnf) | (refine Vc.exit ?_; conv => whnf) | (refine mkSl (by omega) (by omega) ?_; conv => whnf) | (refine ifB_i (fun _ => ?_) (fun _ => ?_) <;> conv => whnf) | (refine ⟨_, impl_valOk own, ?_⟩; conv => whnf) | (refine ⟨_, ints_clone vals hlen, ?_⟩; conv => whnf)
          · rename_i h
            have h : valOk own = false := by simpa using h
            exact ⟨by rw [hgo, endOf, if_neg (by simp [h])]; rfl, rfl⟩
          · rename_i h
            have h : valOk own = true := by simpa using h
            exact ⟨by rw [hgo, endOf, if_pos h]; rfl, rfl⟩
  · have e0 : actRun act vals args = (Rslt.nil, []) := by rw [actRun, if_neg hall]
    rw [e0]
    conv => whnf
    repeat' first | (refine Sq.cons ?_; conv => whnf) | (refine Dr.cons ?_; conv => whnf) | (refine Sq.nil ?_; conv => whnf) | (refine Dr.nil ?_; refine drawIf (by kernel_rfl) ?_; conv => whnf) | refine Vc.seq ?_ | (refine Vc.region rfl ?_; conv => whnf) | (refine Vc.draw rfl (by kernel_rfl) ?_; conv => whnf) | (refine Vc.cond ?_; conv => whnf) | refine Vc.block ?_ | (refine Vc.ret ?_; conv => whnf) | (refine Vc.skip ?_; conv => whnf) | (refine Vc.exit ?_; conv => whnf) | (refine mkSl (by omega) (by omega) ?_; conv => whnf) | (refine ifB_i (fun _ => ?_) (fun _ => ?_) <;> conv => whnf) | (refine ⟨_, impl_actOk _, ?_⟩; conv => whnf) | (refine ⟨_, impl_valOk _, ?_⟩; conv => whnf) | (refine ⟨_, impl_argOk _, ?_⟩; conv => whnf)
    all_goals first | exact ⟨rfl, rfl⟩ | skip
    all_goals exact absurd (by simp_all) hall
theorem spec_end (vals own tells : List Int) (hv : vals.length ≤ 100000) : Sem P 193 [(.pure, AI vals), (.own, AI own), (.own, AI tells)] [] (.tup [(true, aR (endOf vals (some (own, tells))).1), (false, [sI (endOf vals (some (own, tells))).2])]) := by
  refine fn_okR (E := E0) E0_tab E0_ord (fn := Go.Proofs.Tryz.f193) (by kernel_rfl) (by kernel_rfl) (fun hb => ?_)
  have lv := ints_len vals
  conv => whnf
  repeat' first | (refine Sq.cons ?_; conv => whnf) | (refine Dr.cons ?_; conv => whnf) | (refine Sq.nil ?_; conv => whnf) | (refine Dr.nil ?_; refine drawIf (by kernel_rfl) ?_; conv => whnf) | refine Vc.seq ?_ | (refine Vc.region rfl ?_; conv => whnf) | (refine Vc.draw rfl (by kernel_rfl) ?_; conv => whnf) | (refine Vc.cond ?_; conv => whnf) | refine Vc.block ?_ | (refine Vc.ret ?_; conv => whnf) | (refine Vc.skip ?_; conv => whnf) | (refine Vc.exit ?_; conv => whnf) | (refine mkSl (by omega) (by omega) ?_; conv => whnf) | (refine ifB_i (fun _ => ?_) (fun _ => ?_) <;> conv => whnf) | (refine ⟨_, spec_valOk own, ?_⟩; conv => whnf) | (refine apN (by simp; omega) ?_; conv => whnf) | (refine apP (prim_ints _) ?_; conv => whnf)
  · rename_i h
    have h : valOk own = false := by simpa using h
    exact ⟨by rw [endOf, if_neg (by simp [h])]; rfl, rfl⟩
  · rename_i h
    have h : valOk own = true := by simpa using h
    exact ⟨by rw [endOf, if_pos h]; rfl, rfl⟩
theorem spec_actRun (act : List Line) (vals args : List Int) : Sem P 93 [(.pure, .one (sLs act)), (.pure, AI vals), (.pure, AI args)] [] (.tup [(true, aR (actRun act vals args).1), (false, [sI (actRun act vals args).2])]) := by
  refine fn_okR (E := { E0 with keep := [19003] }) E0_tab E0_ord (fn := Go.Proofs.Tryz.f93) (by kernel_rfl) (by kernel_rfl) (fun hb => ?_)
  have la : (act.map eL).length = act.length := List.length_map ..
  by_cases hall : (actOk act && valOk vals && argOk args) = true
  · obtain ⟨⟨ha, hv⟩, hg⟩ : (actOk act = true ∧ valOk vals = true) ∧ argOk args = true := by simpa using hall
    have hlen : vals.length ≤ 100000 := by rw [(potsB.zero hv).1]; decide
    have e0 : actRun act vals args = endOf vals (goLines args act vals []) := by rw [actRun, if_pos hall]
    obtain ⟨hlines, h6, _⟩ := actOk_iff.1 ha
    rw [e0]
    conv => whnf
    repeat' first | (refine Sq.cons ?_; conv => whnf) | (refine Dr.cons ?_; conv => whnf) | (refine Sq.nil ?_; conv => whnf) | (refine Dr.nil ?_; refine drawIf (by kernel_rfl) ?_; conv => whnf) | refine Vc.seq ?_ | (refine Vc.region rfl ?_; conv => whnf) | (refine Vc.draw rfl (by kernel_rfl) ?_; conv => whnf) | (refine Vc.cond ?_; conv => whnf) | refine Vc.block ?_ | (refine Vc.ret ?_; conv => whnf) | (refine Vc.skip ?_; conv => whnf) | (refine Vc.exit ?_; conv => whnf) | (refine mkSl (by omega) (by omega) ?_; conv => whnf) | (refine ifB_i (fun _ => ?_) (fun _ => ?_) <;> conv => whnf) | (refine ⟨_, spec_actOk _, ?_⟩; conv => whnf) | (refine ⟨_, spec_valOk _, ?_⟩; conv => whnf) | (refine ⟨_, spec_argOk _, ?_⟩; conv => whnf) | (refine apN (by simp; omega) ?_; conv => whnf) | (refine apP (prim_ints _) ?_; conv => whnf)
    · rename_i h; rw [ha] at h; cases h
    · rename_i h; rw [hv] at h; cases h
    · rename_i h; rw [hg] at h; cases h
    · refine Vc.loop3 (fun (i : Nat) (own tells : List Int) => i ≤ 12 ∧ potsB own (min i 6) ∧ tells.length ≤ i ∧ goLines args act vals [] = goLines args (act.drop i) own tells) (fun i own tells => updL [0, 1, 2, 6, 8, 86, 87, 88, 89, 90, 91] [(10, I i), (9, .one (.ref 320000))] [(256128, .arr 3 (ints own) false), (320000, .arr 3 (ints tells) false)]) (fun i _ _ => 12 - i) 0 vals [] ⟨by omega, potsB.zero hv, by simp, rfl⟩ ?_ (fun i own tells hi => ?_)
      · repeat' (first | exact True.intro | ((conv => whnf); first | exact True.intro | refine ⟨by rfl, ?_⟩ | refine ⟨?_, ?_⟩))
      · obtain ⟨hi, ho, ht, hgo⟩ := hi
        have lt := ints_len tells
        conv => whnf
        (repeat' first | (refine Sq.cons ?_; conv => whnf) | (refine Dr.cons ?_; conv => whnf) | (refine Sq.nil ?_; conv => whnf) | (refine Dr.nil ?_; refine drawIf (by kernel_rfl) ?_; conv => whnf) | refine Vc.seq ?_ | (refine Vc.region rfl ?_; conv => whnf) | (refine Vc.draw rfl (by kernel_rfl) ?_; conv => whnf) | (refine Vc.cond ?_; conv => whnf) | refine Vc.block ?_ | (refine Vc.ret ?_; conv => whnf) | (refine Vc.skip ?_; conv => whnf) | (refine Vc.exit ?_; conv => whnf) | (refine mkSl (by omega) (by omega) ?_; conv => whnf))
        refine ifB_d (fun g => ?_) (fun g => ?_)
        all_goals conv => whnf
        · have hi6 : i < act.length := by omega
          have hm : min i 6 = i := by omega
          rw [hm] at ho
          rw [go_at args own tells hi6] at hgo
          obtain ⟨x, hxi⟩ : ∃ x, act[i]? = some x := ⟨_, List.getElem?_eq_getElem hi6⟩
          have hx : x.ok = true := hlines _ (List.mem_of_getElem? hxi)
          have ex : act.getD i default = x := by rw [List.getD_eq_getElem?_getD, hxi]; rfl
          rw [ex] at hgo
          have hkind := line_kind hx
          have hsk := line_skip hx
          have hpo := line_pot hx
          have hfo := line_form hx
          obtain ⟨kind, pot, skip, form⟩ := x
          simp only at hkind hsk hpo hfo hgo
          rcases hkind with rfl | rfl | rfl | rfl
          · have hs := hfo (by decide)
            have hsk := hsk rfl
            have q := at_small hs ho hg
            simp only [Int.reduceEq, if_false, if_true] at hgo
            repeat' first | (refine Sq.cons ?_; conv => whnf) | (refine Dr.cons ?_; conv => whnf) | (refine Sq.nil ?_; conv => whnf) | (refine Dr.nil ?_; refine drawIf (by kernel_rfl) ?_; conv => whnf) | refine Vc.seq ?_ | (refine Vc.region rfl ?_; conv => whnf) | (refine Vc.draw rfl (by kernel_rfl) ?_; conv => whnf) | (refine Vc.cond ?_; conv => whnf) | refine Vc.block ?_ | (refine Vc.ret ?_; conv => whnf) | (refine Vc.skip ?_; conv => whnf) | (refine Vc.exit ?_; conv => whnf) | (refine mkSl (by omega) (by omega) ?_; conv => whnf) | (refine ifB_i (fun _ => ?_) (fun _ => ?_) <;> conv => whnf) | (refine ixE (enc := eL) hxi ?_; conv => whnf) | (refine ⟨_, spec_at form own args (small_form hs).1 (ho.nums (by omega)) (arg_nums hg), ?_⟩; conv => whnf) | (refine w64 (by first | omega | (dsimp only; omega)) (by first | omega | (dsimp only; omega)) ?_; conv => whnf)
            · rename_i h
              have h : form.at own args < 0 := by simpa using h
              rw [if_pos h] at hgo
              refine ⟨i + 1 + skip.toNat, own, tells, ⟨by omega, ho.mono (by omega), by omega, hgo⟩, by simp only; omega, ?_⟩
              repeat' (first | exact True.intro | ((conv => whnf); first | exact True.intro | refine ⟨by rfl, ?_⟩ | refine ⟨by first | omega | (show (_ : Int) = _; dsimp only; omega), ?_⟩ | refine ⟨?_, ?_⟩))
            · rename_i h
              have h : ¬ form.at own args < 0 := by simpa using h
              rw [if_neg h] at hgo
              refine ⟨i + 1, own, tells, ⟨by omega, ho.mono (by omega), by omega, hgo⟩, by simp only; omega, ?_⟩
              repeat' (first | exact True.intro | ((conv => whnf); first | exact True.intro | refine ⟨by rfl, ?_⟩ | refine ⟨?_, ?_⟩))
          · have hs := hfo (by decide)
            have hpo := hpo rfl
            have q := at_small hs ho hg
            have q2 := getD_bd ho.2 (i := pot.toNat) (by rw [ho.1]; omega)
            have q3 := bnd_le (i := i) (by omega)
            have lo := ho.1
            simp only [Int.reduceEq, if_false, if_true] at hgo
            repeat' first | (refine Sq.cons ?_; conv => whnf) | (refine Dr.cons ?_; conv => whnf) | (refine Sq.nil ?_; conv => whnf) | (refine Dr.nil ?_; refine drawIf (by kernel_rfl) ?_; conv => whnf) | refine Vc.seq ?_ | (refine Vc.region rfl ?_; conv => whnf) | (refine Vc.draw rfl (by kernel_rfl) ?_; conv => whnf) | (refine Vc.cond ?_; conv => whnf) | refine Vc.block ?_ | (refine Vc.ret ?_; conv => whnf) | (refine Vc.skip ?_; conv => whnf) | (refine Vc.exit ?_; conv => whnf) | (refine mkSl (by omega) (by omega) ?_; conv => whnf) | (refine ifB_i (fun _ => ?_) (fun _ => ?_) <;> conv => whnf) | (refine ixE (enc := eL) hxi ?_; conv => whnf) | (refine ⟨_, spec_at form own args (small_form hs).1 (ho.nums (by omega)) (arg_nums hg), ?_⟩; conv => whnf) | (refine w64 (by first | omega | (dsimp only; omega)) (by first | omega | (dsimp only; omega)) ?_; conv => whnf) | (refine ioN (by first | omega | (dsimp only; omega)) (by rw [ints_len]; dsimp only; omega) ?_; conv => whnf) | (refine rwN (enc := rI) 0 (by first | omega | (dsimp only; omega)) ?_; conv => whnf) | (refine ixI (enc := rI) 0 (by first | omega | (dsimp only; omega)) (by first | omega | (dsimp only; omega)) ?_; conv => whnf)
            refine ⟨i + 1, own.set pot.toNat (own.getD pot.toNat 0 + form.at own args), tells, ⟨by omega, by rw [show min (i + 1) 6 = i + 1 by omega]; exact ho.set q (by omega), by omega, hgo⟩, by simp only; omega, ?_⟩
            repeat' (first | exact True.intro | ((conv => whnf); first | exact True.intro | refine ⟨by rfl, ?_⟩ | refine ⟨by first | omega | (show (_ : Int) = _; dsimp only; omega) | exact set_ints _ _ _, ?_⟩ | refine ⟨?_, ?_⟩))
          · have hs := hfo (by decide)
            have q := at_small hs ho hg
            simp only [Int.reduceEq, if_false, if_true] at hgo
            repeat' first | (refine Sq.cons ?_; conv => whnf) | (refine Dr.cons ?_; conv => whnf) | (refine Sq.nil ?_; conv => whnf) | (refine Dr.nil ?_; refine drawIf (by kernel_rfl) ?_; conv => whnf) | refine Vc.seq ?_ | (refine Vc.region rfl ?_; conv => whnf) | (refine Vc.draw rfl (by kernel_rfl) ?_; conv => whnf) | (refine Vc.cond ?_; conv => whnf) | refine Vc.block ?_ | (refine Vc.ret ?_; conv => whnf) | (refine Vc.skip ?_; conv => whnf) | (refine Vc.exit ?_; conv => whnf) | (refine mkSl (by omega) (by omega) ?_; conv => whnf) | (refine ifB_i (fun _ => ?_) (fun _ => ?_) <;> conv => whnf) | (refine ixE (enc := eL) hxi ?_; conv => whnf) | (refine ⟨_, spec_at form own args (small_form hs).1 (ho.nums (by omega)) (arg_nums hg), ?_⟩; conv => whnf) | (refine w64 (by first | omega | (dsimp only; omega)) (by first | omega | (dsimp only; omega)) ?_; conv => whnf) | (refine apN (by simp; omega) ?_; conv => whnf) | (refine apP (prim_ints _) ?_; conv => whnf)
            refine ⟨i + 1, own, tells ++ [form.at own args], ⟨by omega, ho.mono (by omega), by rw [List.length_append]; simp; omega, hgo⟩, by simp only; omega, ?_⟩
            repeat' (first | exact True.intro | ((conv => whnf); first | exact True.intro | refine ⟨by rfl, ?_⟩ | refine ⟨by first | omega | (show (_ : Int) = _; dsimp only; omega) | exact app_ints _ _, ?_⟩ | refine ⟨?_, ?_⟩))
          · simp only [Int.reduceEq, if_false, if_true] at hgo
            repeat' first | (refine Sq.cons ?_; conv => whnf) | (refine Dr.cons ?_; conv => whnf) | (refine Sq.nil ?_; conv => whnf) | (refine Dr.nil ?_; refine drawIf (by kernel_rfl) ?_; conv => whnf) | refine Vc.seq ?_ | (refine Vc.region rfl ?_; conv => whnf) | (refine Vc.draw rfl (by kernel_rfl) ?_; conv => whnf) | (refine Vc.cond ?_; conv => whnf) | refine Vc.block ?_ | (refine Vc.ret ?_; conv => whnf) | (refine Vc.skip ?_; conv => whnf) | (refine Vc.exit ?_; conv => whnf) | (refine mkSl (by omega) (by omega) ?_; conv => whnf) | (refine ifB_i (fun _ => ?_) (fun _ => ?_) <;> conv => whnf) | (refine ixE (enc := eL) hxi ?_; conv => whnf) | (refine apN (by simp; omega) ?_; conv => whnf) | (refine apP (prim_ints _) ?_; conv => whnf)
            exact ⟨by rw [hgo]; rfl, rfl⟩
        · rw [go_end args own tells (by omega)] at hgo
          repeat' first | (refine Sq.cons ?_; conv => whnf) | (refine Dr.cons ?_; conv => whnf) | (refine Sq.nil ?_; conv => whnf) | (refine Dr.nil ?_; refine drawIf (by kernel_rfl) ?_; conv => whnf) | refine Vc.seq ?_ | (refine Vc.region rfl ?_; conv => whnf) | (refine Vc.draw rfl (by kernel_rfl) ?_; conv => whnf) | (refine Vc.cond ?_; conv => whnf) | refine Vc.block ?_ | (refine Vc.ret ?_; conv => whnf) | (refine Vc.skip ?_; conv => whnf) | (refine Vc.exit ?_; conv => whnf) | (refine mkSl (by omega) (by omega) ?_; conv => whnf) | (refine ifB_i (fun _ => ?_) (fun _ => ?_) <;> conv => whnf) | (refine ⟨_, spec_end vals own tells hlen, ?_⟩; conv => whnf)
          exact ⟨by rw [hgo]; rfl, rfl⟩
  · have e0 : actRun act vals args = (Rslt.nil, []) := by rw [actRun, if_neg hall]
    rw [e0]
    conv => whnf
    repeat' first | (refine Sq.cons ?_; conv => whnf) | (refine Dr.cons ?_; conv => whnf) | (refine Sq.nil ?_; conv => whnf) | (refine Dr.nil ?_; refine drawIf (by kernel_rfl) ?_; conv => whnf) | refine Vc.seq ?_ | (refine Vc.region rfl ?_; conv => whnf) | (refine Vc.draw rfl (by kernel_rfl) ?_; conv => whnf) | (refine Vc.cond ?_; conv => whnf) | refine Vc.block ?_ | (refine Vc.ret ?_; conv => whnf) | (refine Vc.skip ?_; conv => whnf) | (refine Vc.exit ?_; conv => whnf) | (refine mkSl (by omega) (by omega) ?_; conv => whnf) | (refine ifB_i (fun _ => ?_) (fun _ => ?_) <;> conv => whnf) | (refine ⟨_, spec_actOk _, ?_⟩; conv => whnf) | (refine ⟨_, spec_valOk _, ?_⟩; conv => whnf) | (refine ⟨_, spec_argOk _, ?_⟩; conv => whnf)
    all_goals first | exact ⟨rfl, rfl⟩ | skip
    all_goals exact absurd (by simp_all) hall
end Cc
end
section
namespace Cc
open Go Go.AM
set_option maxRecDepth 100000
set_option maxHeartbeats 4000000
theorem spec_catOk (acts : List (List Line)) : Sem P 110 [(.pure, .one (sAs acts))] [] (B (catOk acts)) := by
  refine fn_okR (E := E0) E0_tab E0_ord (fn := Go.Proofs.Tryz.f110) (by kernel_rfl) (by kernel_rfl) (fun hb => ?_)
  have la : (acts.map eA).length = acts.length := List.length_map ..
  have hb1 : (acts.map eA).length ≤ 1125899906842624 := hb.1.1
  conv => whnf
  repeat' first | (refine Sq.cons ?_; conv => whnf) | (refine Dr.cons ?_; conv => whnf) | (refine Sq.nil ?_; conv => whnf) | (refine Dr.nil ?_; refine drawIf (by kernel_rfl) ?_; conv => whnf) | refine Vc.seq ?_ | (refine Vc.region rfl ?_; conv => whnf) | (refine Vc.draw rfl (by kernel_rfl) ?_; conv => whnf) | (refine Vc.cond ?_; conv => whnf) | refine Vc.block ?_ | (refine Vc.ret ?_; conv => whnf) | (refine Vc.skip ?_; conv => whnf) | (refine Vc.exit ?_; conv => whnf) | (refine mkSl (by omega) (by omega) ?_; conv => whnf) | (refine ifB_i (fun _ => ?_) (fun _ => ?_) <;> conv => whnf) | (refine ⟨_, spec_in _ _ _, ?_⟩; conv => whnf)
  · rename_i h
    exact rB (by simp_all [catOk])
  · rename_i h
    refine Vc.loop1 (fun (i : Nat) => i ≤ acts.length ∧ ∀ j, j < i → actOk (acts.getD j default) = true) (fun i => updL [0] [(3, I i)] []) (fun i => acts.length - i) 0 ⟨by omega, fun j hj => absurd hj (Nat.not_lt_zero j)⟩ ?_ (fun i hi => ?_)
    · repeat' (first | exact True.intro | ((conv => whnf); first | exact True.intro | refine ⟨by rfl, ?_⟩ | refine ⟨?_, ?_⟩))
    · obtain ⟨hi, ho⟩ := hi
      have hlm : (acts.map eA).length = acts.length := List.length_map ..
      conv => whnf
      (repeat' first | (refine Sq.cons ?_; conv => whnf) | (refine Dr.cons ?_; conv => whnf) | (refine Sq.nil ?_; conv => whnf) | (refine Dr.nil ?_; refine drawIf (by kernel_rfl) ?_; conv => whnf) | refine Vc.seq ?_ | (refine Vc.region rfl ?_; conv => whnf) | (refine Vc.draw rfl (by kernel_rfl) ?_; conv => whnf) | (refine Vc.cond ?_; conv => whnf) | refine Vc.block ?_ | (refine Vc.ret ?_; conv => whnf) | (refine Vc.skip ?_; conv => whnf) | (refine Vc.exit ?_; conv => whnf) | (refine mkSl (by omega) (by omega) ?_; conv => whnf))
      refine ifB_d (fun g => ?_) (fun g => ?_)
      all_goals conv => whnf
      · repeat' first | (refine Sq.cons ?_; conv => whnf) | (refine Dr.cons ?_; conv => whnf) | (refine Sq.nil ?_; conv => whnf) | (refine Dr.nil ?_; refine drawIf (by kernel_rfl) ?_; conv => whnf) | refine Vc.seq ?_ | (refine Vc.region rfl ?_; conv => whnf) | (refine Vc.draw rfl (by kernel_rfl) ?_; conv => whnf) | (refine Vc.cond ?_; conv => whnf) | refine Vc.block ?_ | (refine Vc.ret ?_; conv => whnf) | (refine Vc.skip ?_; conv => whnf) | (refine Vc.exit ?_; conv => whnf) | (refine mkSl (by omega) (by omega) ?_; conv => whnf) | (refine ifB_i (fun _ => ?_) (fun _ => ?_) <;> conv => whnf) | (refine ixN (enc := eA) default (by omega) ?_; conv => whnf) | (refine ⟨_, spec_actOk _, ?_⟩; conv => whnf) | (refine w64 (by first | omega | (dsimp only; omega)) (by first | omega | (dsimp only; omega)) ?_; conv => whnf)
        all_goals first
          | (refine ⟨i + 1, ⟨by omega, fun j hj => ?_⟩, by simp only; omega, ?_⟩
             · by_cases h' : j < i
               · exact ho j h'
               · obtain rfl : j = i := by omega
                 clear ho
                 simp_all
             · repeat' (first | exact True.intro | ((conv => whnf); first | exact True.intro | refine ⟨by rfl, ?_⟩ | refine ⟨?_, ?_⟩)))
          | (have hp : actOk (acts.getD i default) = false := by (clear ho; simp_all )
             have hn : acts.all actOk = false := all_not default (j := i) (by omega) hp
             exact rB (by simp_all [catOk]))
      · have hall : acts.all actOk = true := all_get default fun j hj => ho j (by omega)
        repeat' first | (refine Sq.cons ?_; conv => whnf) | (refine Dr.cons ?_; conv => whnf) | (refine Sq.nil ?_; conv => whnf) | (refine Dr.nil ?_; refine drawIf (by kernel_rfl) ?_; conv => whnf) | refine Vc.seq ?_ | (refine Vc.region rfl ?_; conv => whnf) | (refine Vc.draw rfl (by kernel_rfl) ?_; conv => whnf) | (refine Vc.cond ?_; conv => whnf) | refine Vc.block ?_ | (refine Vc.ret ?_; conv => whnf) | (refine Vc.skip ?_; conv => whnf) | (refine Vc.exit ?_; conv => whnf) | (refine mkSl (by omega) (by omega) ?_; conv => whnf) | (refine ifB_i (fun _ => ?_) (fun _ => ?_) <;> conv => whnf) | (refine ⟨_, spec_actOk _, ?_⟩; conv => whnf) | (refine w64 (by first | omega | (dsimp only; omega)) (by first | omega | (dsimp only; omega)) ?_; conv => whnf)
        exact rB (by simp_all [catOk])
theorem cat_1 (a : List Line) : Sem P 277 [(.pure, .one (sLs a))] [] (B (!actOk a)) := by
  refine fn_okR (E := E0) E0_tab E0_ord (fn := Go.Proofs.Tryz.f277) (by kernel_rfl) (by kernel_rfl) (fun hb => ?_)
  conv => whnf
  repeat' first | (refine Sq.cons ?_; conv => whnf) | (refine Dr.cons ?_; conv => whnf) | (refine Sq.nil ?_; conv => whnf) | (refine Dr.nil ?_; refine drawIf (by kernel_rfl) ?_; conv => whnf) | refine Vc.seq ?_ | (refine Vc.region rfl ?_; conv => whnf) | (refine Vc.draw rfl (by kernel_rfl) ?_; conv => whnf) | (refine Vc.cond ?_; conv => whnf) | refine Vc.block ?_ | (refine Vc.ret ?_; conv => whnf) | (refine Vc.skip ?_; conv => whnf) | (refine Vc.exit ?_; conv => whnf) | (refine mkSl (by omega) (by omega) ?_; conv => whnf) | (refine ifB_i (fun _ => ?_) (fun _ => ?_) <;> conv => whnf) | (refine ⟨_, impl_actOk _, ?_⟩; conv => whnf)
  exact ⟨rfl, rfl⟩
theorem cats_any_ix  (l : List (List Line)) : Sem P 320 [(.pure, .one (sAs l)), (.pure, .one (.fn 277 []))] [] (I (idxOf (fun (x : (List Line)) => !actOk x) l)) := by
  refine fn_okR (E := E0) E0_tab E0_ord (fn := Go.Proofs.Tryz.f320) (by kernel_rfl) (by kernel_rfl) (fun hb => ?_)
  have la : (l.map eA).length = l.length := List.length_map ..
  have hb1 : (l.map eA).length ≤ 1125899906842624 := hb.1.1
  conv => whnf
  (repeat' first | (refine Sq.cons ?_; conv => whnf) | (refine Dr.cons ?_; conv => whnf) | (refine Sq.nil ?_; conv => whnf) | (refine Dr.nil ?_; refine drawIf (by kernel_rfl) ?_; conv => whnf) | refine Vc.seq ?_ | (refine Vc.region rfl ?_; conv => whnf) | (refine Vc.draw rfl (by kernel_rfl) ?_; conv => whnf) | (refine Vc.cond ?_; conv => whnf) | refine Vc.block ?_ | (refine Vc.ret ?_; conv => whnf) | (refine Vc.skip ?_; conv => whnf) | (refine Vc.exit ?_; conv => whnf) | (refine mkSl (by omega) (by omega) ?_; conv => whnf))
  refine Vc.loop { i : Nat // ∀ j, j < i → j < l.length → (fun (x : (List Line)) => !actOk x) (l.getD j default) = false } (fun i => updL [0, 1, 7] [(8, I i.1)] []) (fun i => l.length - i.1) ⟨0, by simp⟩ ?_ (fun i => ?_)
  · repeat' (first | exact True.intro | ((conv => whnf); first | exact True.intro | refine ⟨by rfl, ?_⟩ | refine ⟨?_, ?_⟩))
  · have hi := i.2
    conv => whnf
    (repeat' first | (refine Sq.cons ?_; conv => whnf) | (refine Dr.cons ?_; conv => whnf) | (refine Sq.nil ?_; conv => whnf) | (refine Dr.nil ?_; refine drawIf (by kernel_rfl) ?_; conv => whnf) | refine Vc.seq ?_ | (refine Vc.region rfl ?_; conv => whnf) | (refine Vc.draw rfl (by kernel_rfl) ?_; conv => whnf) | (refine Vc.cond ?_; conv => whnf) | refine Vc.block ?_ | (refine Vc.ret ?_; conv => whnf) | (refine Vc.skip ?_; conv => whnf) | (refine Vc.exit ?_; conv => whnf) | (refine mkSl (by omega) (by omega) ?_; conv => whnf))
    refine ifB_d (fun g => ?_) (fun g => ?_)
    all_goals conv => whnf
    · repeat' first | (refine Sq.cons ?_; conv => whnf) | (refine Dr.cons ?_; conv => whnf) | (refine Sq.nil ?_; conv => whnf) | (refine Dr.nil ?_; refine drawIf (by kernel_rfl) ?_; conv => whnf) | refine Vc.seq ?_ | (refine Vc.region rfl ?_; conv => whnf) | (refine Vc.draw rfl (by kernel_rfl) ?_; conv => whnf) | (refine Vc.cond ?_; conv => whnf) | refine Vc.block ?_ | (refine Vc.ret ?_; conv => whnf) | (refine Vc.skip ?_; conv => whnf) | (refine Vc.exit ?_; conv => whnf) | (refine mkSl (by omega) (by omega) ?_; conv => whnf) | (refine ifB_i (fun _ => ?_) (fun _ => ?_) <;> conv => whnf) | (refine ixN (enc := eA) default (by omega) ?_; conv => whnf) | (refine ⟨_, cat_1 _, ?_⟩; conv => whnf) | (refine w64 (by omega) (by omega) ?_; conv => whnf)
      · rename_i h
        exact rI' (idx_hit (p := fun (x : (List Line)) => !actOk x) default (by omega) h fun j hj => hi j hj (by omega)).symm
      · rename_i h
        refine ⟨⟨i.1 + 1, fun j hj hl => ?_⟩, ?_, ?_⟩
        · by_cases hji : j < i.1
          · exact hi j hji hl
          · obtain rfl : j = i.1 := by omega
            exact h
        · simp only; omega
        · repeat' (first | exact True.intro | ((conv => whnf); first | exact True.intro | refine ⟨by rfl, ?_⟩ | refine ⟨?_, ?_⟩))
    · (repeat' first | (refine Sq.cons ?_; conv => whnf) | (refine Dr.cons ?_; conv => whnf) | (refine Sq.nil ?_; conv => whnf) | (refine Dr.nil ?_; refine drawIf (by kernel_rfl) ?_; conv => whnf) | refine Vc.seq ?_ | (refine Vc.region rfl ?_; conv => whnf) | (refine Vc.draw rfl (by kernel_rfl) ?_; conv => whnf) | (refine Vc.cond ?_; conv => whnf) | refine Vc.block ?_ | (refine Vc.ret ?_; conv => whnf) | (refine Vc.skip ?_; conv => whnf) | (refine Vc.exit ?_; conv => whnf) | (refine mkSl (by omega) (by omega) ?_; conv => whnf))
      exact rI' (idx_none (p := fun (x : (List Line)) => !actOk x) default fun j hj => hi j (by omega) hj).symm
theorem cats_any  (l : List (List Line)) : Sem P 276 [(.pure, .one (sAs l)), (.pure, .one (.fn 277 []))] [] (B (l.any fun (x : (List Line)) => !actOk x)) := by
  refine fn_okR (E := E0) E0_tab E0_ord (fn := Go.Proofs.Tryz.f276) (by kernel_rfl) (by kernel_rfl) (fun hb => ?_)
  conv => whnf
  repeat' first | (refine Sq.cons ?_; conv => whnf) | (refine Dr.cons ?_; conv => whnf) | (refine Sq.nil ?_; conv => whnf) | (refine Dr.nil ?_; refine drawIf (by kernel_rfl) ?_; conv => whnf) | refine Vc.seq ?_ | (refine Vc.region rfl ?_; conv => whnf) | (refine Vc.draw rfl (by kernel_rfl) ?_; conv => whnf) | (refine Vc.cond ?_; conv => whnf) | refine Vc.block ?_ | (refine Vc.ret ?_; conv => whnf) | (refine Vc.skip ?_; conv => whnf) | (refine Vc.exit ?_; conv => whnf) | (refine mkSl (by omega) (by omega) ?_; conv => whnf) | (refine ifB_i (fun _ => ?_) (fun _ => ?_) <;> conv => whnf) | (refine ⟨_, cats_any_ix  l, ?_⟩; conv => whnf)
  exact rB (idx_any _ _)
theorem impl_catOk (acts : List (List Line)) : Sem P 181 [(.pure, .one (sAs acts))] [] (B (catOk acts)) := by
  refine fn_okR (E := E0) E0_tab E0_ord (fn := Go.Proofs.Tryz.f181) (by kernel_rfl) (by kernel_rfl) (fun hb => ?_)
  have la : (acts.map eA).length = acts.length := List.length_map ..
  conv => whnf
  repeat' first | (refine Sq.cons ?_; conv => whnf) | (refine Dr.cons ?_; conv => whnf) | (refine Sq.nil ?_; conv => whnf) | (refine Dr.nil ?_; refine drawIf (by kernel_rfl) ?_; conv => whnf) | refine Vc.seq ?_ | (refine Vc.region rfl ?_; conv => whnf) | (refine Vc.draw rfl (by kernel_rfl) ?_; conv => whnf) | (refine Vc.cond ?_; conv => whnf) | refine Vc.block ?_ | (refine Vc.ret ?_; conv => whnf) | (refine Vc.skip ?_; conv => whnf) | (refine Vc.exit ?_; conv => whnf) | (refine mkSl (by omega) (by omega) ?_; conv => whnf) | (refine ifB_i (fun _ => ?_) (fun _ => ?_) <;> conv => whnf) | (refine ⟨_, impl_in _ _ _, ?_⟩; conv => whnf) | (refine ⟨_, cats_any acts, ?_⟩; conv => whnf)
  all_goals exact rB (by simp_all [catOk, any_all])
theorem trt_1 (n : Int) : Sem P 278 [(.pure, I n)] [] (B (!inB n 0 50)) := by
  refine fn_okR (E := E0) E0_tab E0_ord (fn := Go.Proofs.Tryz.f278) (by kernel_rfl) (by kernel_rfl) (fun hb => ?_)
  conv => whnf
  repeat' first | (refine Sq.cons ?_; conv => whnf) | (refine Dr.cons ?_; conv => whnf) | (refine Sq.nil ?_; conv => whnf) | (refine Dr.nil ?_; refine drawIf (by kernel_rfl) ?_; conv => whnf) | refine Vc.seq ?_ | (refine Vc.region rfl ?_; conv => whnf) | (refine Vc.draw rfl (by kernel_rfl) ?_; conv => whnf) | (refine Vc.cond ?_; conv => whnf) | refine Vc.block ?_ | (refine Vc.ret ?_; conv => whnf) | (refine Vc.skip ?_; conv => whnf) | (refine Vc.exit ?_; conv => whnf) | (refine mkSl (by omega) (by omega) ?_; conv => whnf) | (refine ifB_i (fun _ => ?_) (fun _ => ?_) <;> conv => whnf) | (refine ⟨_, impl_in _ _ _, ?_⟩; conv => whnf)
  exact ⟨rfl, rfl⟩
theorem gives_any_ix  (l : List Int) : Sem P 284 [(.pure, .one (sI l)), (.pure, .one (.fn 278 []))] [] (I (idxOf (fun (x : Int) => !inB x 0 50) l)) := by
  refine fn_okR (E := E0) E0_tab E0_ord (fn := Go.Proofs.Tryz.f284) (by kernel_rfl) (by kernel_rfl) (fun hb => ?_)
  have la : (ints l).length = l.length := List.length_map ..
  have hb1 : (ints l).length ≤ 1125899906842624 := hb.1.1
  conv => whnf
  (repeat' first | (refine Sq.cons ?_; conv => whnf) | (refine Dr.cons ?_; conv => whnf) | (refine Sq.nil ?_; conv => whnf) | (refine Dr.nil ?_; refine drawIf (by kernel_rfl) ?_; conv => whnf) | refine Vc.seq ?_ | (refine Vc.region rfl ?_; conv => whnf) | (refine Vc.draw rfl (by kernel_rfl) ?_; conv => whnf) | (refine Vc.cond ?_; conv => whnf) | refine Vc.block ?_ | (refine Vc.ret ?_; conv => whnf) | (refine Vc.skip ?_; conv => whnf) | (refine Vc.exit ?_; conv => whnf) | (refine mkSl (by omega) (by omega) ?_; conv => whnf))
  refine Vc.loop { i : Nat // ∀ j, j < i → j < l.length → (fun (x : Int) => !inB x 0 50) (l.getD j default) = false } (fun i => updL [0, 1, 7] [(8, I i.1)] []) (fun i => l.length - i.1) ⟨0, by simp⟩ ?_ (fun i => ?_)
  · repeat' (first | exact True.intro | ((conv => whnf); first | exact True.intro | refine ⟨by rfl, ?_⟩ | refine ⟨?_, ?_⟩))
  · have hi := i.2
    conv => whnf
    (repeat' first | (refine Sq.cons ?_; conv => whnf) | (refine Dr.cons ?_; conv => whnf) | (refine Sq.nil ?_; conv => whnf) | (refine Dr.nil ?_; refine drawIf (by kernel_rfl) ?_; conv => whnf) | refine Vc.seq ?_ | (refine Vc.region rfl ?_; conv => whnf) | (refine Vc.draw rfl (by kernel_rfl) ?_; conv => whnf) | (refine Vc.cond ?_; conv => whnf) | refine Vc.block ?_ | (refine Vc.ret ?_; conv => whnf) | (refine Vc.skip ?_; conv => whnf) | (refine Vc.exit ?_; conv => whnf) | (refine mkSl (by omega) (by omega) ?_; conv => whnf))
    refine ifB_d (fun g => ?_) (fun g => ?_)
    all_goals conv => whnf
    · repeat' first | (refine Sq.cons ?_; conv => whnf) | (refine Dr.cons ?_; conv => whnf) | (refine Sq.nil ?_; conv => whnf) | (refine Dr.nil ?_; refine drawIf (by kernel_rfl) ?_; conv => whnf) | refine Vc.seq ?_ | (refine Vc.region rfl ?_; conv => whnf) | (refine Vc.draw rfl (by kernel_rfl) ?_; conv => whnf) | (refine Vc.cond ?_; conv => whnf) | refine Vc.block ?_ | (refine Vc.ret ?_; conv => whnf) | (refine Vc.skip ?_; conv => whnf) | (refine Vc.exit ?_; conv => whnf) | (refine mkSl (by omega) (by omega) ?_; conv => whnf) | (refine ifB_i (fun _ => ?_) (fun _ => ?_) <;> conv => whnf) | (refine ixN (enc := rI) default (by omega) ?_; conv => whnf) | (refine ⟨_, trt_1 _, ?_⟩; conv => whnf) | (refine w64 (by omega) (by omega) ?_; conv => whnf)
      · rename_i h
        exact rI' (idx_hit (p := fun (x : Int) => !inB x 0 50) default (by omega) h fun j hj => hi j hj (by omega)).symm
      · rename_i h
        refine ⟨⟨i.1 + 1, fun j hj hl => ?_⟩, ?_, ?_⟩
        · by_cases hji : j < i.1
          · exact hi j hji hl
          · obtain rfl : j = i.1 := by omega
            exact h
        · simp only; omega
        · repeat' (first | exact True.intro | ((conv => whnf); first | exact True.intro | refine ⟨by rfl, ?_⟩ | refine ⟨?_, ?_⟩))
    · (repeat' first | (refine Sq.cons ?_; conv => whnf) | (refine Dr.cons ?_; conv => whnf) | (refine Sq.nil ?_; conv => whnf) | (refine Dr.nil ?_; refine drawIf (by kernel_rfl) ?_; conv => whnf) | refine Vc.seq ?_ | (refine Vc.region rfl ?_; conv => whnf) | (refine Vc.draw rfl (by kernel_rfl) ?_; conv => whnf) | (refine Vc.cond ?_; conv => whnf) | refine Vc.block ?_ | (refine Vc.ret ?_; conv => whnf) | (refine Vc.skip ?_; conv => whnf) | (refine Vc.exit ?_; conv => whnf) | (refine mkSl (by omega) (by omega) ?_; conv => whnf))
      exact rI' (idx_none (p := fun (x : Int) => !inB x 0 50) default fun j hj => hi j (by omega) hj).symm
theorem gives_any  (l : List Int) : Sem P 196 [(.pure, .one (sI l)), (.pure, .one (.fn 278 []))] [] (B (l.any fun (x : Int) => !inB x 0 50)) := by
  refine fn_okR (E := E0) E0_tab E0_ord (fn := Go.Proofs.Tryz.f196) (by kernel_rfl) (by kernel_rfl) (fun hb => ?_)
  conv => whnf
  repeat' first | (refine Sq.cons ?_; conv => whnf) | (refine Dr.cons ?_; conv => whnf) | (refine Sq.nil ?_; conv => whnf) | (refine Dr.nil ?_; refine drawIf (by kernel_rfl) ?_; conv => whnf) | refine Vc.seq ?_ | (refine Vc.region rfl ?_; conv => whnf) | (refine Vc.draw rfl (by kernel_rfl) ?_; conv => whnf) | (refine Vc.cond ?_; conv => whnf) | refine Vc.block ?_ | (refine Vc.ret ?_; conv => whnf) | (refine Vc.skip ?_; conv => whnf) | (refine Vc.exit ?_; conv => whnf) | (refine mkSl (by omega) (by omega) ?_; conv => whnf) | (refine ifB_i (fun _ => ?_) (fun _ => ?_) <;> conv => whnf) | (refine ⟨_, gives_any_ix  l, ?_⟩; conv => whnf)
  exact rB (idx_any _ _)
theorem impl_trtOk (t : Treaty) : Sem P 182 [(.pure, .agg (aT t))] [] (B (trtOk t)) := by
  refine fn_okR (E := E0) E0_tab E0_ord (fn := Go.Proofs.Tryz.f182) (by kernel_rfl) (by kernel_rfl) (fun hb => ?_)
  have la := ints_len t.Gives
  conv => whnf
  repeat' first | (refine Sq.cons ?_; conv => whnf) | (refine Dr.cons ?_; conv => whnf) | (refine Sq.nil ?_; conv => whnf) | (refine Dr.nil ?_; refine drawIf (by kernel_rfl) ?_; conv => whnf) | refine Vc.seq ?_ | (refine Vc.region rfl ?_; conv => whnf) | (refine Vc.draw rfl (by kernel_rfl) ?_; conv => whnf) | (refine Vc.cond ?_; conv => whnf) | refine Vc.block ?_ | (refine Vc.ret ?_; conv => whnf) | (refine Vc.skip ?_; conv => whnf) | (refine Vc.exit ?_; conv => whnf) | (refine mkSl (by omega) (by omega) ?_; conv => whnf) | (refine ifB_i (fun _ => ?_) (fun _ => ?_) <;> conv => whnf) | (refine ⟨_, impl_valOk _, ?_⟩; conv => whnf) | (refine ⟨_, impl_in _ _ _, ?_⟩; conv => whnf) | (refine ⟨_, gives_any t.Gives, ?_⟩; conv => whnf)
  all_goals exact rB (by simp_all [trtOk, givesOk, any_all])
theorem spec_trtOk (t : Treaty) : Sem P 112 [(.pure, .agg (aT t))] [] (B (trtOk t)) := by
  refine fn_okR (E := E0) E0_tab E0_ord (fn := Go.Proofs.Tryz.f112) (by kernel_rfl) (by kernel_rfl) (fun hb => ?_)
  have la := ints_len t.Gives
  have hb1 : (ints t.Gives).length ≤ 1125899906842624 := (hb.1 (sI t.Gives) (by simp)).1
  conv => whnf
  repeat' first | (refine Sq.cons ?_; conv => whnf) | (refine Dr.cons ?_; conv => whnf) | (refine Sq.nil ?_; conv => whnf) | (refine Dr.nil ?_; refine drawIf (by kernel_rfl) ?_; conv => whnf) | refine Vc.seq ?_ | (refine Vc.region rfl ?_; conv => whnf) | (refine Vc.draw rfl (by kernel_rfl) ?_; conv => whnf) | (refine Vc.cond ?_; conv => whnf) | refine Vc.block ?_ | (refine Vc.ret ?_; conv => whnf) | (refine Vc.skip ?_; conv => whnf) | (refine Vc.exit ?_; conv => whnf) | (refine mkSl (by omega) (by omega) ?_; conv => whnf) | (refine ifB_i (fun _ => ?_) (fun _ => ?_) <;> conv => whnf) | (refine ⟨_, spec_valOk _, ?_⟩; conv => whnf) | (refine ⟨_, spec_in _ _ _, ?_⟩; conv => whnf)
  · rename_i h
    exact rB (by simp_all [trtOk])
  · rename_i h
    exact rB (by simp_all [trtOk, givesOk])
  · rename_i h1 h2
    refine Vc.loop1 (fun (i : Nat) => i ≤ t.Gives.length ∧ ∀ j, j < i → (fun n => inB n 0 50) (t.Gives.getD j default) = true) (fun i => updL [1] [(3, I i)] []) (fun i => t.Gives.length - i) 0 ⟨by omega, fun j hj => absurd hj (Nat.not_lt_zero j)⟩ ?_ (fun i hi => ?_)
    · repeat' (first | exact True.intro | ((conv => whnf); first | exact True.intro | refine ⟨by rfl, ?_⟩ | refine ⟨?_, ?_⟩))
    · obtain ⟨hi, ho⟩ := hi
      have hlm : (t.Gives.map rI).length = t.Gives.length := List.length_map ..
      conv => whnf
      (repeat' first | (refine Sq.cons ?_; conv => whnf) | (refine Dr.cons ?_; conv => whnf) | (refine Sq.nil ?_; conv => whnf) | (refine Dr.nil ?_; refine drawIf (by kernel_rfl) ?_; conv => whnf) | refine Vc.seq ?_ | (refine Vc.region rfl ?_; conv => whnf) | (refine Vc.draw rfl (by kernel_rfl) ?_; conv => whnf) | (refine Vc.cond ?_; conv => whnf) | refine Vc.block ?_ | (refine Vc.ret ?_; conv => whnf) | (refine Vc.skip ?_; conv => whnf) | (refine Vc.exit ?_; conv => whnf) | (refine mkSl (by omega) (by omega) ?_; conv => whnf))
      refine ifB_d (fun g => ?_) (fun g => ?_)
      all_goals conv => whnf
      · repeat' first | (refine Sq.cons ?_; conv => whnf) | (refine Dr.cons ?_; conv => whnf) | (refine Sq.nil ?_; conv => whnf) | (refine Dr.nil ?_; refine drawIf (by kernel_rfl) ?_; conv => whnf) | refine Vc.seq ?_ | (refine Vc.region rfl ?_; conv => whnf) | (refine Vc.draw rfl (by kernel_rfl) ?_; conv => whnf) | (refine Vc.cond ?_; conv => whnf) | refine Vc.block ?_ | (refine Vc.ret ?_; conv => whnf) | (refine Vc.skip ?_; conv => whnf) | (refine Vc.exit ?_; conv => whnf) | (refine mkSl (by omega) (by omega) ?_; conv => whnf) | (refine ifB_i (fun _ => ?_) (fun _ => ?_) <;> conv => whnf) | (refine ixN (enc := rI) default (by omega) ?_; conv => whnf) | (refine ⟨_, spec_in _ _ _, ?_⟩; conv => whnf) | (refine w64 (by first | omega | (dsimp only; omega)) (by first | omega | (dsimp only; omega)) ?_; conv => whnf)
        all_goals first
          | (refine ⟨i + 1, ⟨by omega, fun j hj => ?_⟩, by simp only; omega, ?_⟩
             · by_cases h' : j < i
               · exact ho j h'
               · obtain rfl : j = i := by omega
                 clear ho
                 simp_all
             · repeat' (first | exact True.intro | ((conv => whnf); first | exact True.intro | refine ⟨by rfl, ?_⟩ | refine ⟨?_, ?_⟩)))
          | (have hp : (fun n => inB n 0 50) (t.Gives.getD i default) = false := by (clear ho; simp_all )
             have hn : t.Gives.all (fun n => inB n 0 50) = false := all_not default (j := i) (by omega) hp
             exact rB (by simp_all [trtOk, givesOk]))
      · have hall : t.Gives.all (fun n => inB n 0 50) = true := all_get default fun j hj => ho j (by omega)
        repeat' first | (refine Sq.cons ?_; conv => whnf) | (refine Dr.cons ?_; conv => whnf) | (refine Sq.nil ?_; conv => whnf) | (refine Dr.nil ?_; refine drawIf (by kernel_rfl) ?_; conv => whnf) | refine Vc.seq ?_ | (refine Vc.region rfl ?_; conv => whnf) | (refine Vc.draw rfl (by kernel_rfl) ?_; conv => whnf) | (refine Vc.cond ?_; conv => whnf) | refine Vc.block ?_ | (refine Vc.ret ?_; conv => whnf) | (refine Vc.skip ?_; conv => whnf) | (refine Vc.exit ?_; conv => whnf) | (refine mkSl (by omega) (by omega) ?_; conv => whnf) | (refine ifB_i (fun _ => ?_) (fun _ => ?_) <;> conv => whnf) | (refine ⟨_, spec_in _ _ _, ?_⟩; conv => whnf) | (refine w64 (by first | omega | (dsimp only; omega)) (by first | omega | (dsimp only; omega)) ?_; conv => whnf)
        exact rB (by simp_all [trtOk, givesOk])
theorem impl_treaty (p : Plan) (base : List Int) : Sem P 183 [(.pure, .agg (aPl p)), (.pure, AI base)] [] (.agg [fI base, fI p.Gives]) := by
  refine fn_okR (E := E0) E0_tab E0_ord (fn := Go.Proofs.Tryz.f183) (by kernel_rfl) (by kernel_rfl) (fun hb => ?_)
  conv => whnf
  repeat' first | (refine Sq.cons ?_; conv => whnf) | (refine Dr.cons ?_; conv => whnf) | (refine Sq.nil ?_; conv => whnf) | (refine Dr.nil ?_; refine drawIf (by kernel_rfl) ?_; conv => whnf) | refine Vc.seq ?_ | (refine Vc.region rfl ?_; conv => whnf) | (refine Vc.draw rfl (by kernel_rfl) ?_; conv => whnf) | (refine Vc.cond ?_; conv => whnf) | refine Vc.block ?_ | (refine Vc.ret ?_; conv => whnf) | (refine Vc.skip ?_; conv => whnf) | (refine Vc.exit ?_; conv => whnf) | (refine mkSl (by omega) (by omega) ?_; conv => whnf) | (refine ifB_i (fun _ => ?_) (fun _ => ?_) <;> conv => whnf)
  exact ⟨rfl, rfl⟩
theorem impl_planOk (p : Plan) : Sem P 89 [(.pure, .agg (aPl p))] [] (B (planOk p)) := by
  refine fn_okR (E := E0) E0_tab E0_ord (fn := Go.Proofs.Tryz.f89) (by kernel_rfl) (by kernel_rfl) (fun hb => ?_)
  conv => whnf
  repeat' first | (refine Sq.cons ?_; conv => whnf) | (refine Dr.cons ?_; conv => whnf) | (refine Sq.nil ?_; conv => whnf) | (refine Dr.nil ?_; refine drawIf (by kernel_rfl) ?_; conv => whnf) | refine Vc.seq ?_ | (refine Vc.region rfl ?_; conv => whnf) | (refine Vc.draw rfl (by kernel_rfl) ?_; conv => whnf) | (refine Vc.cond ?_; conv => whnf) | refine Vc.block ?_ | (refine Vc.ret ?_; conv => whnf) | (refine Vc.skip ?_; conv => whnf) | (refine Vc.exit ?_; conv => whnf) | (refine mkSl (by omega) (by omega) ?_; conv => whnf) | (refine ifB_i (fun _ => ?_) (fun _ => ?_) <;> conv => whnf) | (refine ⟨_, impl_in _ _ _, ?_⟩; conv => whnf) | (refine ⟨_, impl_catOk _, ?_⟩; conv => whnf) | (refine ⟨_, impl_within _ 3 _ (by omega), ?_⟩; conv => whnf) | (refine ⟨_, impl_treaty p p.Start, ?_⟩; conv => whnf) | (refine ⟨_, impl_trtOk ⟨p.Start, p.Gives⟩, ?_⟩; conv => whnf)
  all_goals exact rB (by simp_all [planOk, Plan.treaty])
theorem spec_planOk (p : Plan) : Sem P 26 [(.pure, .agg (aPl p))] [] (B (planOk p)) := by
  refine fn_okR (E := E0) E0_tab E0_ord (fn := Go.Proofs.Tryz.f26) (by kernel_rfl) (by kernel_rfl) (fun hb => ?_)
  conv => whnf
  repeat' first | (refine Sq.cons ?_; conv => whnf) | (refine Dr.cons ?_; conv => whnf) | (refine Sq.nil ?_; conv => whnf) | (refine Dr.nil ?_; refine drawIf (by kernel_rfl) ?_; conv => whnf) | refine Vc.seq ?_ | (refine Vc.region rfl ?_; conv => whnf) | (refine Vc.draw rfl (by kernel_rfl) ?_; conv => whnf) | (refine Vc.cond ?_; conv => whnf) | refine Vc.block ?_ | (refine Vc.ret ?_; conv => whnf) | (refine Vc.skip ?_; conv => whnf) | (refine Vc.exit ?_; conv => whnf) | (refine mkSl (by omega) (by omega) ?_; conv => whnf) | (refine ifB_i (fun _ => ?_) (fun _ => ?_) <;> conv => whnf) | (refine ⟨_, spec_in _ _ _, ?_⟩; conv => whnf) | (refine ⟨_, spec_catOk _, ?_⟩; conv => whnf) | (refine ⟨_, spec_all _ 3 _ (by omega), ?_⟩; conv => whnf) | (refine ⟨_, spec_trtOk ⟨p.Start, p.Gives⟩, ?_⟩; conv => whnf)
  all_goals exact rB (by simp_all [planOk, Plan.treaty])
theorem impl_isClient (p : Plan) (n : Int) (hc : inB p.Clients 0 4 = true) : Sem P 153 [(.pure, .agg (aPl p)), (.pure, I n)] [] (B (isClient p n)) := by
  have hc := inB_iff.1 hc
  refine fn_okR (E := E0) E0_tab E0_ord (fn := Go.Proofs.Tryz.f153) (by kernel_rfl) (by kernel_rfl) (fun hb => ?_)
  conv => whnf
  repeat' first | (refine Sq.cons ?_; conv => whnf) | (refine Dr.cons ?_; conv => whnf) | (refine Sq.nil ?_; conv => whnf) | (refine Dr.nil ?_; refine drawIf (by kernel_rfl) ?_; conv => whnf) | refine Vc.seq ?_ | (refine Vc.region rfl ?_; conv => whnf) | (refine Vc.draw rfl (by kernel_rfl) ?_; conv => whnf) | (refine Vc.cond ?_; conv => whnf) | refine Vc.block ?_ | (refine Vc.ret ?_; conv => whnf) | (refine Vc.skip ?_; conv => whnf) | (refine Vc.exit ?_; conv => whnf) | (refine mkSl (by omega) (by omega) ?_; conv => whnf) | (refine ifB_i (fun _ => ?_) (fun _ => ?_) <;> conv => whnf) | (refine ⟨_, impl_in _ _ _, ?_⟩; conv => whnf) | (refine w64 (by omega) (by omega) ?_; conv => whnf)
  exact ⟨rfl, rfl⟩
theorem impl_callOk (p : Plan) (c : Call) (hc : inB p.Clients 0 4 = true) : Sem P 186 [(.pure, .agg (aPl p)), (.pure, .agg (aC c))] [] (B (callB p c)) := by
  refine fn_okR (E := E0) E0_tab E0_ord (fn := Go.Proofs.Tryz.f186) (by kernel_rfl) (by kernel_rfl) (fun hb => ?_)
  have la : (p.Acts.map eA).length = p.Acts.length := List.length_map ..
  have hb1 : (p.Acts.map eA).length ≤ 1125899906842624 := (hb.1 (sAs p.Acts) (by simp)).1
  conv => whnf
  repeat' first | (refine Sq.cons ?_; conv => whnf) | (refine Dr.cons ?_; conv => whnf) | (refine Sq.nil ?_; conv => whnf) | (refine Dr.nil ?_; refine drawIf (by kernel_rfl) ?_; conv => whnf) | refine Vc.seq ?_ | (refine Vc.region rfl ?_; conv => whnf) | (refine Vc.draw rfl (by kernel_rfl) ?_; conv => whnf) | (refine Vc.cond ?_; conv => whnf) | refine Vc.block ?_ | (refine Vc.ret ?_; conv => whnf) | (refine Vc.skip ?_; conv => whnf) | (refine Vc.exit ?_; conv => whnf) | (refine mkSl (by omega) (by omega) ?_; conv => whnf) | (refine ifB_i (fun _ => ?_) (fun _ => ?_) <;> conv => whnf) | (refine ⟨_, impl_isClient p c.Client hc, ?_⟩; conv => whnf) | (refine ⟨_, impl_in _ _ _, ?_⟩; conv => whnf) | (refine ⟨_, impl_argOk _, ?_⟩; conv => whnf) | (refine w64 (by omega) (by omega) ?_; conv => whnf)
  all_goals exact rB (by simp_all [callB])
theorem spec_call (p : Plan) (c : Call) (hc : inB p.Clients 0 4 = true) : Sem P 152 [(.pure, .agg (aPl p)), (.pure, .agg (aC c))] [] (B (callB p c)) := by
  have hc := inB_iff.1 hc
  refine fn_okR (E := E0) E0_tab E0_ord (fn := Go.Proofs.Tryz.f152) (by kernel_rfl) (by kernel_rfl) (fun hb => ?_)
  have la : (p.Acts.map eA).length = p.Acts.length := List.length_map ..
  have hb1 : (p.Acts.map eA).length ≤ 1125899906842624 := (hb.1 (sAs p.Acts) (by simp)).1
  conv => whnf
  repeat' first | (refine Sq.cons ?_; conv => whnf) | (refine Dr.cons ?_; conv => whnf) | (refine Sq.nil ?_; conv => whnf) | (refine Dr.nil ?_; refine drawIf (by kernel_rfl) ?_; conv => whnf) | refine Vc.seq ?_ | (refine Vc.region rfl ?_; conv => whnf) | (refine Vc.draw rfl (by kernel_rfl) ?_; conv => whnf) | (refine Vc.cond ?_; conv => whnf) | refine Vc.block ?_ | (refine Vc.ret ?_; conv => whnf) | (refine Vc.skip ?_; conv => whnf) | (refine Vc.exit ?_; conv => whnf) | (refine mkSl (by omega) (by omega) ?_; conv => whnf) | (refine ifB_i (fun _ => ?_) (fun _ => ?_) <;> conv => whnf) | (refine ⟨_, spec_in _ _ _, ?_⟩; conv => whnf) | (refine ⟨_, spec_argOk _, ?_⟩; conv => whnf) | (refine w64 (by omega) (by omega) ?_; conv => whnf)
  all_goals exact rB (by simp_all [callB, isClient])
end Cc
end
section
namespace Go.Proofs
open Go.Shelf
def Tryz.lays240_ren : Go.Shelf.Ren := ⟨fun | 166 => 350 | 240 => 362 | 276 => 369 | n => n, fun | 0 => 0 | 3 => 3 | 4 => 4 | 5 => 5 | 9 => 9 | 20 => 20 | 37 => 22 | 70 => 347 | 72 => 349 | 75 => 351 | 80 => 354 | 164 => 362 | 77 => 352 | n => n, fun | n => n⟩
theorem Tryz.lays240 : Go.Proofs.Lays.n240 Tryz.prog Tryz.lays240_ren := {
  mixed := by kernel_rfl
  f240 := Tryz.func362.trans (congrArg some (by kernel_rfl))
  f276 := Tryz.func369.trans (congrArg some (by kernel_rfl))
  t0 := Tryz.underlying0
  a0 := Tryz.isAgg0
  z0 := Tryz.sizeOf0
  v0 := Tryz.zeroValue0
  t4 := Tryz.underlying4
  a4 := Tryz.isAgg4
  z4 := Tryz.sizeOf4
  v4 := Tryz.zeroValue4
  t9 := Tryz.underlying9
  a9 := Tryz.isAgg9
  z9 := Tryz.sizeOf9
  v9 := Tryz.zeroValue9
  t20 := Tryz.underlying20
  a20 := Tryz.isAgg20
  z20 := Tryz.sizeOf20
  v20 := Tryz.zeroValue20
  t70 := Tryz.underlying347
  a70 := Tryz.isAgg347
  z70 := Tryz.sizeOf347
  v70 := Tryz.zeroValue347
  t72 := Tryz.underlying349
  a72 := Tryz.isAgg349
  z72 := Tryz.sizeOf349
  v72 := Tryz.zeroValue349
  t164 := Tryz.underlying362
  a164 := Tryz.isAgg362
  z164 := Tryz.sizeOf362
  v164 := Tryz.zeroValue362 }
def Tryz.lays166_ren : Go.Shelf.Ren := ⟨fun | 166 => 350 | 240 => 362 | 276 => 369 | n => n, fun | 0 => 0 | 3 => 3 | 4 => 4 | 5 => 5 | 9 => 9 | 20 => 20 | 37 => 22 | 70 => 347 | 72 => 349 | 75 => 351 | 80 => 354 | 164 => 362 | 77 => 352 | n => n, fun | n => n⟩
theorem Tryz.lays166 : Go.Proofs.Lays.n166 Tryz.prog Tryz.lays166_ren := {
  mixed := by kernel_rfl
  f166 := Tryz.func350.trans (congrArg some (by kernel_rfl))
  f240 := Tryz.func362.trans (congrArg some (by kernel_rfl))
  f276 := Tryz.func369.trans (congrArg some (by kernel_rfl))
  t0 := Tryz.underlying0
  a0 := Tryz.isAgg0
  z0 := Tryz.sizeOf0
  v0 := Tryz.zeroValue0
  t3 := Tryz.underlying3
  a3 := Tryz.isAgg3
  z3 := Tryz.sizeOf3
  v3 := Tryz.zeroValue3
  t4 := Tryz.underlying4
  a4 := Tryz.isAgg4
  z4 := Tryz.sizeOf4
  v4 := Tryz.zeroValue4
  t9 := Tryz.underlying9
  a9 := Tryz.isAgg9
  z9 := Tryz.sizeOf9
  v9 := Tryz.zeroValue9
  t20 := Tryz.underlying20
  a20 := Tryz.isAgg20
  z20 := Tryz.sizeOf20
  v20 := Tryz.zeroValue20
  t37 := Tryz.underlying22
  a37 := Tryz.isAgg22
  z37 := Tryz.sizeOf22
  v37 := Tryz.zeroValue22
  t70 := Tryz.underlying347
  a70 := Tryz.isAgg347
  z70 := Tryz.sizeOf347
  v70 := Tryz.zeroValue347
  t72 := Tryz.underlying349
  a72 := Tryz.isAgg349
  z72 := Tryz.sizeOf349
  v72 := Tryz.zeroValue349
  t75 := Tryz.underlying351
  a75 := Tryz.isAgg351
  z75 := Tryz.sizeOf351
  v75 := Tryz.zeroValue351
  t164 := Tryz.underlying362
  a164 := Tryz.isAgg362
  z164 := Tryz.sizeOf362
  v164 := Tryz.zeroValue362 }
theorem Tryz.Builder_Extra_166 : Builder.Extra Tryz.prog Tryz.lays166_ren := {
  sizeBuilder := by kernel_rfl
  liesBuilder := by kernel_rfl
  t5 := Tryz.underlying5
  a5 := Tryz.isAgg5
  z5 := Tryz.sizeOf5
  v5 := Tryz.zeroValue5
  infoByte := by kernel_rfl
  cellsByte := by kernel_rfl
  sizeByte := by kernel_rfl
  neB5 := by decide }
open Go.RowKit in
theorem Tryz.Builder_WriteString (B b : Nat) (bs : List Value) (s : ByteArray) (w : World) (h : Lib.IsBuilder 349 5 B b bs w) (hlen : bs.length + s.size ≤ 140737488355328) (hBw : B ≤ w.heap.size) :
    Calls Tryz.prog 350 #[.pointer (some ⟨b, 0, none⟩), .string s] w fun e w' => e = .returned (.tuple #[.int .i64 s.size, .nilIface]) ∧ (Lib.BuilderAt 349 5 B b (.pointer (some ⟨b, 0, none⟩)) (bs ++ Lib.strCells s) w' ∧ Below B w w') := Any.Builder_WriteString Tryz.lays166 Tryz.Builder_Extra_166 B b bs s w h hlen hBw
end Go.Proofs
end
section
namespace Go.AM
open Go Go.RowKit Go.Sort
def joinT (l : List Int) : List UInt8 := l.flatMap fun n => 32 :: Lib.itoa n
theorem joinT_take {l : List Int} {k : Nat} (h : k < l.length) : joinT (l.take (k + 1)) = joinT (l.take k) ++ (32 :: Lib.itoa (l.getD k 0)) := by
  rw [joinT, joinT, List.take_add_one, List.flatMap_append, List.getD_eq_getElem?_getD, List.getElem?_eq_getElem h]
  simp
theorem nDigits_pow : ∀ (k : Nat) {u : Nat}, u < 10 ^ (k + 1) → Lib.nDigits u ≤ k + 1
  | 0, u, h => by rw [Lib.nDigits_small (by simpa using h)]; exact Nat.le_refl _
  | k + 1, u, h => by
    by_cases h' : u < 10
    · rw [Lib.nDigits_small h']; omega
    · rw [Lib.nDigits_big h']
      have := nDigits_pow k (u := u / 10) (by rw [Nat.pow_succ] at h; omega)
      omega
theorem itoa_len {n : Int} (h : -9223372036854775808 ≤ n ∧ n ≤ 9223372036854775807) : (Lib.itoa n).length ≤ 21 := by
  unfold Lib.itoa
  split
  · rw [List.length_cons, Lib.decDigits_length]
    have := nDigits_pow 19 (u := n.natAbs) (by omega)
    omega
  · rw [Lib.decDigits_length]
    have := nDigits_pow 19 (u := n.toNat) (by omega)
    omega
theorem joinT_len : ∀ {l : List Int}, (∀ x ∈ l, -9223372036854775808 ≤ x ∧ x ≤ 9223372036854775807) → (joinT l).length ≤ l.length * 22
  | [], _ => by simp [joinT]
  | a :: r, h => by
    have h1 := itoa_len (h a (by simp))
    have h2 := joinT_len (l := r) fun x hx => h x (by simp [hx])
    have e : joinT (a :: r) = (32 :: Lib.itoa a) ++ joinT r := rfl
    rw [e, List.length_append, List.length_cons, List.length_cons]
    omega
theorem tab_below {w wr : World} (h : Lib.TabIs (P : Program) w "internal/strconv.uint64pow10" .u64 Lib.pow10Tab) (hb : Below w.heap.size w wr) : Lib.TabIs (P : Program) wr "internal/strconv.uint64pow10" .u64 Lib.pow10Tab := by
  unfold Lib.TabIs World.var? at *
  cases hg : (P : Program).globalNamed "internal/strconv.uint64pow10" with
  | none => rw [hg] at h; cases h
  | some g =>
    rw [hg] at h
    simp only [Option.bind_some] at h ⊢
    have hlt : g < w.heap.size := by
      by_cases hlt : g < w.heap.size
      · exact hlt
      · rw [Array.getElem?_eq_none (by omega)] at h; cases h
    rw [hb.block g hlt]
    exact h
theorem cell_lt {w : World} {p : Addr} {v : Value} (h : w.cell? p = some v) : p.block < w.heap.size := by
  by_cases hlt : p.block < w.heap.size
  · exact hlt
  · unfold World.cell? at h
    rw [Array.getElem?_eq_none (by omega)] at h
    cases h
theorem builder_grow {B b : Nat} {bs : List Value} {w : World} {T e : TypeId} (h : Lib.IsBuilder T e B b bs w) (k : Nat) (os : Array Obj) : Lib.IsBuilder T e B b bs (Go.Sort.grow (w.drewN k) os) := by
  have key : ∀ {p : Value}, Lib.BuilderAt T e B b p bs w → Lib.BuilderAt T e B b p bs (Go.Sort.grow (w.drewN k) os) := by
    intro p h
    have hlt := h.lt
    obtain ⟨h1, v, h2, h3, h4⟩ := h
    exact ⟨h1, v, by rw [Lib.heap_grow_old w k os b hlt]; exact h2, Lib.ownsRow_grow h3 k os, h4⟩
  rcases h with h | h
  · exact .inl (key h)
  · exact .inr (key h)
set_option maxHeartbeats 4000000 in
set_option maxRecDepth 1000000 in
theorem joined_walk (l : List Int) (a : Option Addr) (cap : Nat) (w : World) (hl : l.length ≤ 1000) (hbd : ∀ x ∈ l, -9223372036854775808 ≤ x ∧ x ≤ 9223372036854775807) (h0 : l ≠ [] → ∃ b o, a = some ⟨b, o, none⟩) (hc : ∀ b o, a = some ⟨b, o, none⟩ → ∀ j, j < l.length → w.cell? ⟨b, o + j, none⟩ = some (.int .i64 (l.getD j 0)))
    (htab : Lib.TabIs (P : Program) w "internal/strconv.uint64pow10" .u64 Lib.pow10Tab) :
    Calls Go.Proofs.Tryz.prog 322 #[.slice a l.length cap] w fun e w' => e = .returned (.string ⟨(joinT l).toArray⟩) ∧ Below w.heap.size w w' := by
  go_enter Go.Proofs.Tryz.func322, Go.Proofs.Tryz.ntmps322
  go_wp2
  go_loopw [8] (fun i wr => ∃ k : Nat, i = .int .i64 k ∧ k ≤ l.length ∧ Lib.IsBuilder 349 5 w.heap.size w.heap.size (Lib.byteCells (joinT (l.take k))) wr ∧ Below w.heap.size w wr) (fun i _ => l.length - (intOf i).toNat)
  case atStart =>
    exact ⟨0, rfl, Nat.zero_le _, Lib.fresh_isBuilder 349 5 w, (Below.refl _ w).alloc (Nat.le_refl _) _⟩
  case round =>
    obtain ⟨k, rfl, hk, hI, hbw⟩ := hrel
    have hsz : w.heap.size ≤ wr.heap.size := hbw.size
    by_cases hkl : k < l.length
    · obtain ⟨b, o, rfl⟩ := h0 (by intro e; subst e; simp at hkl)
      have hco := hc b o rfl k hkl
      have hcell : wr.cell? ⟨b, o + k, none⟩ = some (.int .i64 (l.getD k 0)) := by
        rw [hbw.cell (cell_lt hco)]; exact hco
      have hgd : l.getD k 0 = l[k] := by rw [List.getD_eq_getElem?_getD, List.getElem?_eq_getElem hkl]; rfl
      rw [hgd] at hcell
      have hn := hbd l[k] (List.getElem_mem hkl)
      have ht := tab_below htab hbw
      have hlen := joinT_len (l := l.take k) fun x hx => hbd x (List.mem_of_mem_take hx)
      rw [List.length_take, Nat.min_eq_left hk] at hlen
      have hil := itoa_len hn
      have hcat : (⟨#[32]⟩ : ByteArray) ++ ⟨(Lib.itoa l[k]).toArray⟩ = ⟨(32 :: Lib.itoa l[k]).toArray⟩ := by
        apply ByteArray.ext
        simp
      go_wp2_with (go_at_call 351; refine (Go.Proofs.Tryz.strconv_Itoa l[k] hn.1 hn.2 wr ht).mono ?_)
      rintro e W1 ⟨rfl, k1, os, rfl⟩
      have hI1 : Lib.IsBuilder 349 5 w.heap.size w.heap.size (Lib.byteCells (joinT (l.take k))) (grow (wr.drewN k1) os) := builder_grow hI k1 os
      have hb1 : Below w.heap.size wr (grow (wr.drewN k1) os) := Lib.below_grow _ _ hsz _ _
      have hs1 : w.heap.size ≤ (grow (wr.drewN k1) os).heap.size := Nat.le_trans hsz hb1.size
      generalize grow (wr.drewN k1) os = W at hI1 hb1 hs1 ⊢
      go_wp2_with (go_at_call 350; refine (Go.Proofs.Tryz.Builder_WriteString w.heap.size w.heap.size _ _ _ hI1 ?_ hs1).mono ?_)
      · rw [Lib.byteCells_length]
        show _ + ((32 :: Lib.itoa l[k]).toArray).size ≤ _
        rw [List.size_toArray, List.length_cons]
        omega
      · rintro e W1 ⟨rfl, h1, b1⟩
        rw [Lib.strCells_toArray, ← Lib.byteCells_append] at h1
        have e1 : joinT (l.take k) ++ (32 :: Lib.itoa l[k]) = joinT (l.take (k + 1)) := by rw [joinT_take hkl, hgd]
        rw [e1] at h1
        go_wp2
        go_roundw
        case rel => exact ⟨k + 1, by go_num, by omega, .inr h1, (hbw.trans hb1).trans b1⟩
        case measure => simp [intOf]; omega
    · have e : k = l.length := by omega
      subst e
      rw [List.take_length] at hI
      go_wp2_with (go_at_call 352; refine (Go.Proofs.Tryz.Builder_String_any w.heap.size w.heap.size (joinT l) _ hI hsz).mono ?_)
      rintro e W1 ⟨rfl, b1⟩
      go_wp2
      go_ret
      exact ⟨rfl, hbw.trans b1⟩
theorem named_lt {P : Program} {n : String} {g : Nat} (h : P.globalNamed n = some g) : g < P.globals.size := by
  unfold Program.globalNamed at h
  split at h
  · rename_i g' e
    obtain rfl := Option.some.inj h
    have : g' ∈ (List.range P.globals.size).filter fun g => (P.globals[g]?).any (·.name == n) := by rw [e]; simp
    exact List.mem_range.1 (List.mem_filter.1 this).1
  · cases h
theorem rd_fact {w : World} {Z : Nat → Prop} (h : GOk P w Z) : Lib.TabIs (P : Program) w "internal/strconv.uint64pow10" .u64 Lib.pow10Tab := by
  obtain ⟨w0, hf, hz⟩ := h
  have hn : (P : Program).globalNamed "internal/strconv.uint64pow10" ≠ none := by
    have e : ((P : Program).globalNamed "internal/strconv.uint64pow10").isSome = true := by kernel_rfl
    intro h; rw [h] at e; cases e
  have h0 := hf.2.1 hn
  unfold Lib.TabIs World.var? at *
  cases hg : (P : Program).globalNamed "internal/strconv.uint64pow10" with
  | none => exact absurd hg hn
  | some g =>
    rw [hg] at h0
    simp only [Option.bind_some] at h0 ⊢
    have hlt : g < (P : Program).globals.size := named_lt hg
    rw [(hz g hlt).2]
    exact h0
theorem impl_joined (l : List Int) (hl : l.length ≤ 1000) (hbd : ∀ x ∈ l, -9223372036854775808 ≤ x ∧ x ≤ 9223372036854775807) : Sem P 322 [(.pure, .one (.sl 3 (ints l)))] [] (.one (.prim (.string ⟨(joinT l).toArray⟩))) := by
  refine sem_pure (by refine ⟨Go.Proofs.Tryz.f322, ?_, ?_, ?_⟩ <;> kernel_rfl) (by simp) fun w Z vals hG hI hZ => ?_
  obtain ⟨x, rfl, hx⟩ := ins_one hI
  obtain ⟨a, cap, rfl, h0, hc⟩ := rd_ints hx
  refine (joined_walk l a cap w hl hbd h0 hc (rd_fact hG)).mono ?_
  rintro e w' ⟨rfl, hb⟩
  exact ⟨_, [], rfl, hb, fun Z' => .one (.prim rfl), by simp, by simp⟩
end Go.AM
end
section
namespace Cc
open Go Go.AM
set_option maxRecDepth 100000
set_option maxHeartbeats 4000000
abbrev eT (l : List UInt8) : AV := .prim (.string ⟨l.toArray⟩)
abbrev T (l : List UInt8) : TV := .one (eT l)
theorem w8 {e : Int} {k : Int → Prop} (h1 : 0 ≤ e) (h2 : e ≤ 255) (h : k e) : ∃ c, IntKind.u8.wrap e = c ∧ k c := ⟨e, by simp [IntKind.wrap, IntKind.signed, IntKind.bits]; omega, h⟩
theorem cat_b (a b : List UInt8) : (⟨a.toArray⟩ : ByteArray) ++ ⟨b.toArray⟩ = ⟨(a ++ b).toArray⟩ := by
  apply ByteArray.ext
  simp
theorem catT {a b : List UInt8} {q : Prop} (h : a.length + b.length ≤ 9000000000000000000) (hq : q) : (((⟨a.toArray⟩ : ByteArray).size + (⟨b.toArray⟩ : ByteArray).size : Nat) : Int) ≤ 9223372036854775807 ∧ q := by
  refine ⟨?_, hq⟩
  show ((a.toArray.size + b.toArray.size : Nat) : Int) ≤ _
  simp only [List.size_toArray]; omega
theorem byteRow {n : Int} (h : 0 ≤ n ∧ n ≤ 255) : [[AV.prim (Value.int .u8 n)]] = bytesRows [UInt8.ofNat n.toNat] := by
  have e : ((UInt8.ofNat n.toNat).toNat : Int) = n := by simp; omega
  simp only [bytesRows, List.map_cons, List.map_nil, e]
theorem decDigits_big {u : Nat} (h : ¬ u < 10) : Lib.decDigits u = Lib.decDigits (u / 10) ++ [UInt8.ofNat (48 + u % 10)] := by rw [Lib.decDigits, dif_neg h]
theorem nDigits_le (u : Nat) : Lib.nDigits u ≤ u + 1 := by
  induction u using Nat.strongRecOn with
  | _ u ih =>
    by_cases h : u < 10
    · rw [Lib.nDigits_small h]; omega
    · rw [Lib.nDigits_big h]; have := ih (u / 10) (by omega); omega
theorem spec_digits0 (n0 : Int) (h0 : 0 ≤ n0) (h1 : n0 ≤ 1000000000000000) : Sem P 251 [(.pure, I n0)] [] (T (Lib.decDigits n0.toNat)) := by
  refine fn_okR (E := E0) E0_tab E0_ord (fn := Go.Proofs.Tryz.f251) (by kernel_rfl) (by kernel_rfl) (fun hb => ?_)
  conv => whnf
  (repeat' first | (refine Sq.cons ?_; conv => whnf) | (refine Dr.cons ?_; conv => whnf) | (refine Sq.nil ?_; conv => whnf) | (refine Dr.nil ?_; refine drawIf (by kernel_rfl) ?_; conv => whnf) | refine Vc.seq ?_ | (refine Vc.region rfl ?_; conv => whnf) | (refine Vc.draw rfl (by kernel_rfl) ?_; conv => whnf) | (refine Vc.cond ?_; conv => whnf) | refine Vc.block ?_ | (refine Vc.ret ?_; conv => whnf) | (refine Vc.skip ?_; conv => whnf) | (refine Vc.exit ?_; conv => whnf) | (refine mkSl (by omega) (by omega) ?_; conv => whnf))
  refine ifB_i (fun h => ?_) (fun h => ?_)
  · exfalso; simp at h; omega
  · conv => whnf
    (repeat' first | (refine Sq.cons ?_; conv => whnf) | (refine Dr.cons ?_; conv => whnf) | (refine Sq.nil ?_; conv => whnf) | (refine Dr.nil ?_; refine drawIf (by kernel_rfl) ?_; conv => whnf) | refine Vc.seq ?_ | (refine Vc.region rfl ?_; conv => whnf) | (refine Vc.draw rfl (by kernel_rfl) ?_; conv => whnf) | (refine Vc.cond ?_; conv => whnf) | refine Vc.block ?_ | (refine Vc.ret ?_; conv => whnf) | (refine Vc.skip ?_; conv => whnf) | (refine Vc.exit ?_; conv => whnf) | (refine mkSl (by omega) (by omega) ?_; conv => whnf))
    refine Vc.loop2 (fun (n : Int) (l : List UInt8) => 0 ≤ n ∧ n ≤ n0 ∧ Lib.decDigits n.toNat ++ l = Lib.decDigits n0.toNat) (fun n l => updL [2, 22, 23, 24, 25, 26, 27, 28] [(0, I n), (3, T l)] []) (fun n _ => n.toNat) n0 [] ⟨h0, by omega, by simp⟩ ?_ (fun n l hi => ?_)
    · repeat' (first | exact True.intro | ((conv => whnf); first | exact True.intro | refine ⟨by rfl, ?_⟩ | refine ⟨?_, ?_⟩))
    · obtain ⟨g0, g1, g2⟩ := hi
      have hlen : l.length ≤ n0.toNat + 1 := by
        have e := congrArg List.length g2
        rw [List.length_append, Lib.decDigits_length, Lib.decDigits_length] at e
        have := nDigits_le n0.toNat
        omega
      conv => whnf
      (repeat' first | (refine Sq.cons ?_; conv => whnf) | (refine Dr.cons ?_; conv => whnf) | (refine Sq.nil ?_; conv => whnf) | (refine Dr.nil ?_; refine drawIf (by kernel_rfl) ?_; conv => whnf) | refine Vc.seq ?_ | (refine Vc.region rfl ?_; conv => whnf) | (refine Vc.draw rfl (by kernel_rfl) ?_; conv => whnf) | (refine Vc.cond ?_; conv => whnf) | refine Vc.block ?_ | (refine Vc.ret ?_; conv => whnf) | (refine Vc.skip ?_; conv => whnf) | (refine Vc.exit ?_; conv => whnf) | (refine mkSl (by omega) (by omega) ?_; conv => whnf))
      refine ifB_d (fun g => ?_) (fun g => ?_)
      all_goals conv => whnf
      · repeat' first | (refine Sq.cons ?_; conv => whnf) | (refine Dr.cons ?_; conv => whnf) | (refine Sq.nil ?_; conv => whnf) | (refine Dr.nil ?_; refine drawIf (by kernel_rfl) ?_; conv => whnf) | refine Vc.seq ?_ | (refine Vc.region rfl ?_; conv => whnf) | (refine Vc.draw rfl (by kernel_rfl) ?_; conv => whnf) | (refine Vc.cond ?_; conv => whnf) | refine Vc.block ?_ | (refine Vc.ret ?_; conv => whnf) | (refine Vc.skip ?_; conv => whnf) | (refine Vc.exit ?_; conv => whnf) | (refine mkSl (by omega) (by omega) ?_; conv => whnf) | (refine ifB_i (fun _ => ?_) (fun _ => ?_) <;> conv => whnf) | (refine r64 (by omega) (by omega) ?_; conv => whnf) | (refine w64 (by omega) (by omega) ?_; conv => whnf) | (refine w8 (by omega) (by omega) ?_; conv => whnf) | (refine ⟨_, byteRow (by omega), ?_⟩; conv => whnf) | (refine catT (by simp; omega) ?_; rw [cat_b]; conv => whnf) | (refine q64 (by omega) (by omega) (by omega) ?_; conv => whnf)
        refine ⟨n / 10, [UInt8.ofNat (48 + n % 10).toNat] ++ l, ⟨by omega, by omega, ?_⟩, by simp only; omega, ?_⟩
        · rw [← g2, decDigits_big (u := n.toNat) (by omega), List.append_assoc]
          have e1 : (n / 10).toNat = n.toNat / 10 := by omega
          have e2 : (48 + n % 10).toNat = 48 + n.toNat % 10 := by omega
          rw [e1, e2]
        · repeat' (first | exact True.intro | ((conv => whnf); first | exact True.intro | refine ⟨by rfl, ?_⟩ | refine ⟨?_, ?_⟩))
      · repeat' first | (refine Sq.cons ?_; conv => whnf) | (refine Dr.cons ?_; conv => whnf) | (refine Sq.nil ?_; conv => whnf) | (refine Dr.nil ?_; refine drawIf (by kernel_rfl) ?_; conv => whnf) | refine Vc.seq ?_ | (refine Vc.region rfl ?_; conv => whnf) | (refine Vc.draw rfl (by kernel_rfl) ?_; conv => whnf) | (refine Vc.cond ?_; conv => whnf) | refine Vc.block ?_ | (refine Vc.ret ?_; conv => whnf) | (refine Vc.skip ?_; conv => whnf) | (refine Vc.exit ?_; conv => whnf) | (refine mkSl (by omega) (by omega) ?_; conv => whnf) | (refine ifB_i (fun _ => ?_) (fun _ => ?_) <;> conv => whnf) | (refine w64 (by omega) (by omega) ?_; conv => whnf) | (refine w8 (by omega) (by omega) ?_; conv => whnf) | (refine ⟨_, byteRow (by omega), ?_⟩; conv => whnf) | (refine catT (by simp; omega) ?_; rw [cat_b]; conv => whnf)
        have e : n.toNat < 10 := by omega
        rw [Lib.decDigits_one e] at g2
        have e2 : (48 + n).toNat = 48 + n.toNat := by omega
        exact ⟨by rw [e2, g2], rfl⟩
theorem spec_digits (n : Int) (h0 : -1000000000000000 ≤ n) (h1 : n ≤ 1000000000000000) : Sem P 251 [(.pure, I n)] [] (T (Lib.itoa n)) := by
  by_cases hn : 0 ≤ n
  · have e : Lib.itoa n = Lib.decDigits n.toNat := by rw [Lib.itoa, if_neg (by omega)]
    rw [e]; exact spec_digits0 n hn h1
  · have e : Lib.itoa n = 45 :: Lib.decDigits (0 - n).toNat := by
      rw [Lib.itoa, if_pos (by omega)]
      congr 2; omega
    have hl : (Lib.decDigits (0 - n).toNat).length ≤ 21 := by
      rw [Lib.decDigits_length]
      have := nDigits_pow 19 (u := (0 - n).toNat) (by omega)
      omega
    rw [e]
    refine fn_okR (E := E0) E0_tab E0_ord (fn := Go.Proofs.Tryz.f251) (by kernel_rfl) (by kernel_rfl) (fun hb => ?_)
    conv => whnf
    (repeat' first | (refine Sq.cons ?_; conv => whnf) | (refine Dr.cons ?_; conv => whnf) | (refine Sq.nil ?_; conv => whnf) | (refine Dr.nil ?_; refine drawIf (by kernel_rfl) ?_; conv => whnf) | refine Vc.seq ?_ | (refine Vc.region rfl ?_; conv => whnf) | (refine Vc.draw rfl (by kernel_rfl) ?_; conv => whnf) | (refine Vc.cond ?_; conv => whnf) | refine Vc.block ?_ | (refine Vc.ret ?_; conv => whnf) | (refine Vc.skip ?_; conv => whnf) | (refine Vc.exit ?_; conv => whnf) | (refine mkSl (by omega) (by omega) ?_; conv => whnf))
    refine ifB_i (fun h => ?_) (fun h => ?_)
    · conv => whnf
      repeat' first | (refine Sq.cons ?_; conv => whnf) | (refine Dr.cons ?_; conv => whnf) | (refine Sq.nil ?_; conv => whnf) | (refine Dr.nil ?_; refine drawIf (by kernel_rfl) ?_; conv => whnf) | refine Vc.seq ?_ | (refine Vc.region rfl ?_; conv => whnf) | (refine Vc.draw rfl (by kernel_rfl) ?_; conv => whnf) | (refine Vc.cond ?_; conv => whnf) | refine Vc.block ?_ | (refine Vc.ret ?_; conv => whnf) | (refine Vc.skip ?_; conv => whnf) | (refine Vc.exit ?_; conv => whnf) | (refine mkSl (by omega) (by omega) ?_; conv => whnf) | (refine ifB_i (fun _ => ?_) (fun _ => ?_) <;> conv => whnf) | (refine w64 (by omega) (by omega) ?_; conv => whnf) | (refine ⟨_, spec_digits0 (0 - n) (by omega) (by omega), ?_⟩; conv => whnf) | (refine catT (a := [45]) (by rw [List.length_singleton]; omega) ?_; rw [cat_b [45]]; conv => whnf)
      exact ⟨rfl, rfl⟩
    · exfalso; simp at h; omega
def codeT (n : Int) : List UInt8 := if n = 1 then [100, 111, 110, 101] else if n = 2 then [115, 116, 111, 112, 112, 101, 100] else [111, 118, 101, 114]
def resT (r : Rslt) : List UInt8 := if resOk r then codeT r.Code ++ joinT r.Tells else []
theorem resOk_iff {r : Rslt} : resOk r = true ↔ (1 ≤ r.Code ∧ r.Code ≤ 3) ∧ (r.Code = 1 ∨ r.Tells = []) ∧ r.Tells.length ≤ 6 ∧ within r.Tells r.Tells.length 999999999999 = true := by
  simp [resOk, inB_iff, and_assoc]
theorem tells_bd {r : Rslt} (h : resOk r = true) : ∀ x ∈ r.Tells, -999999999999 ≤ x ∧ x ≤ 999999999999 := (within_iff.1 (resOk_iff.1 h).2.2.2).2
theorem codeT_len (n : Int) : (codeT n).length ≤ 7 := by unfold codeT; split <;> (try split) <;> decide
theorem impl_words : Sem P 321 [] [] (.one (.sl 9 [[eT []], [eT [100, 111, 110, 101]], [eT [115, 116, 111, 112, 112, 101, 100]], [eT [111, 118, 101, 114]]])) := by
  refine fn_okR (E := E0) E0_tab E0_ord (fn := Go.Proofs.Tryz.f321) (by kernel_rfl) (by kernel_rfl) (fun hb => ?_)
  conv => whnf
  repeat' first | (refine Sq.cons ?_; conv => whnf) | (refine Dr.cons ?_; conv => whnf) | (refine Sq.nil ?_; conv => whnf) | (refine Dr.nil ?_; refine drawIf (by kernel_rfl) ?_; conv => whnf) | refine Vc.seq ?_ | (refine Vc.region rfl ?_; conv => whnf) | (refine Vc.draw rfl (by kernel_rfl) ?_; conv => whnf) | (refine Vc.cond ?_; conv => whnf) | refine Vc.block ?_ | (refine Vc.ret ?_; conv => whnf) | (refine Vc.skip ?_; conv => whnf) | (refine Vc.exit ?_; conv => whnf) | (refine mkSl (by omega) (by omega) ?_; conv => whnf) | (refine ifB_i (fun _ => ?_) (fun _ => ?_) <;> conv => whnf)
  exact ⟨rfl, rfl⟩
theorem impl_resText (r : Rslt) : Sem P 280 [(.pure, .agg (aR r))] [] (T (resT r)) := by
  by_cases hr : resOk r = true
  · have hb3 := tells_bd hr
    have e : resT r = codeT r.Code ++ joinT r.Tells := by rw [resT, if_pos hr]
    rw [e]
    obtain ⟨⟨h1, h2⟩, h3, h4, h5⟩ := resOk_iff.1 hr
    obtain ⟨code, tells⟩ := r
    simp only at h1 h2 h3 h4 h5 hb3 ⊢
    have hj := joinT_len (l := tells) fun x hx => by have := hb3 x hx; omega
    have lt := ints_len tells
    rw [← lt] at h5
    have hc : code = 1 ∨ code = 2 ∨ code = 3 := by omega
    rcases hc with rfl | rfl | rfl
    all_goals
      refine fn_okR (E := E0) E0_tab E0_ord (fn := Go.Proofs.Tryz.f280) (by kernel_rfl) (by kernel_rfl) (fun hb => ?_)
      conv => whnf
      repeat' first | (refine Sq.cons ?_; conv => whnf) | (refine Dr.cons ?_; conv => whnf) | (refine Sq.nil ?_; conv => whnf) | (refine Dr.nil ?_; refine drawIf (by kernel_rfl) ?_; conv => whnf) | refine Vc.seq ?_ | (refine Vc.region rfl ?_; conv => whnf) | (refine Vc.draw rfl (by kernel_rfl) ?_; conv => whnf) | (refine Vc.cond ?_; conv => whnf) | refine Vc.block ?_ | (refine Vc.ret ?_; conv => whnf) | (refine Vc.skip ?_; conv => whnf) | (refine Vc.exit ?_; conv => whnf) | (refine mkSl (by omega) (by omega) ?_; conv => whnf) | (refine ifB_i (fun _ => ?_) (fun _ => ?_) <;> conv => whnf) | (refine ⟨_, impl_in _ _ _, ?_⟩; conv => whnf) | (refine ⟨_, impl_within tells (ints tells).length _ (by omega), ?_⟩; conv => whnf) | (refine ⟨_, impl_words, ?_⟩; conv => whnf) | (refine ⟨_, impl_joined tells (by omega) (fun x hx => by have := hb3 x hx; omega), ?_⟩; conv => whnf) | (refine ixC (by dsimp only; decide) rfl ?_; conv => whnf) | (refine catT (by simp; omega) ?_; rw [cat_b]; conv => whnf)
      all_goals first
        | exact ⟨rfl, rfl⟩
        | (exfalso; simp_all; done)
        | (exfalso; simp_all; omega)
  · have e : resT r = [] := by rw [resT, if_neg hr]
    rw [e]
    refine fn_okR (E := E0) E0_tab E0_ord (fn := Go.Proofs.Tryz.f280) (by kernel_rfl) (by kernel_rfl) (fun hb => ?_)
    have lt := ints_len r.Tells
    conv => whnf
    repeat' first | (refine Sq.cons ?_; conv => whnf) | (refine Dr.cons ?_; conv => whnf) | (refine Sq.nil ?_; conv => whnf) | (refine Dr.nil ?_; refine drawIf (by kernel_rfl) ?_; conv => whnf) | refine Vc.seq ?_ | (refine Vc.region rfl ?_; conv => whnf) | (refine Vc.draw rfl (by kernel_rfl) ?_; conv => whnf) | (refine Vc.cond ?_; conv => whnf) | refine Vc.block ?_ | (refine Vc.ret ?_; conv => whnf) | (refine Vc.skip ?_; conv => whnf) | (refine Vc.exit ?_; conv => whnf) | (refine mkSl (by omega) (by omega) ?_; conv => whnf) | (refine ifB_i (fun _ => ?_) (fun _ => ?_) <;> conv => whnf) | (refine ⟨_, impl_in _ _ _, ?_⟩; conv => whnf) | (refine ⟨_, impl_within r.Tells (ints r.Tells).length _ (by omega), ?_⟩; conv => whnf)
    all_goals first
      | exact ⟨rfl, rfl⟩
      | (exfalso; refine hr (resOk_iff.2 ?_); simp_all [inB_iff]; done)
      | (exfalso; refine hr (resOk_iff.2 ?_); simp_all [inB_iff]; omega)
theorem text_ne (l : List UInt8) : (!((⟨l.toArray⟩ : ByteArray).toList == (⟨#[]⟩ : ByteArray).toList)) = !l.isEmpty := by
  rw [ByteArray.toList_mk, show (⟨#[]⟩ : ByteArray) = ⟨([] : List UInt8).toArray⟩ from rfl, ByteArray.toList_mk]
  cases l <;> rfl
theorem resT_ne (r : Rslt) : (!(resT r).isEmpty) = resOk r := by
  unfold resT
  cases h : resOk r
  · rfl
  · simp only [if_true]
    unfold codeT
    split <;> (try split) <;> rfl
theorem impl_resOk (r : Rslt) : Sem P 187 [(.pure, .agg (aR r))] [] (B (resOk r)) := by
  refine fn_okR (E := E0) E0_tab E0_ord (fn := Go.Proofs.Tryz.f187) (by kernel_rfl) (by kernel_rfl) (fun hb => ?_)
  conv => whnf
  repeat' first | (refine Sq.cons ?_; conv => whnf) | (refine Dr.cons ?_; conv => whnf) | (refine Sq.nil ?_; conv => whnf) | (refine Dr.nil ?_; refine drawIf (by kernel_rfl) ?_; conv => whnf) | refine Vc.seq ?_ | (refine Vc.region rfl ?_; conv => whnf) | (refine Vc.draw rfl (by kernel_rfl) ?_; conv => whnf) | (refine Vc.cond ?_; conv => whnf) | refine Vc.block ?_ | (refine Vc.ret ?_; conv => whnf) | (refine Vc.skip ?_; conv => whnf) | (refine Vc.exit ?_; conv => whnf) | (refine mkSl (by omega) (by omega) ?_; conv => whnf) | (refine ifB_i (fun _ => ?_) (fun _ => ?_) <;> conv => whnf) | (refine ⟨_, impl_resText r, ?_⟩; conv => whnf)
  exact rB (by rw [← resT_ne, ← text_ne])
theorem spec_resText (r : Rslt) : Sem P 158 [(.pure, .agg (aR r))] [] (T (resT r)) := by
  by_cases hr : resOk r = true
  · have hb3 := tells_bd hr
    have e : resT r = codeT r.Code ++ joinT r.Tells := by rw [resT, if_pos hr]
    rw [e]
    obtain ⟨⟨h1, h2⟩, h3, h4, h5⟩ := resOk_iff.1 hr
    obtain ⟨code, tells⟩ := r
    simp only at h1 h2 h3 h4 h5 hb3 ⊢
    have lt := ints_len tells
    rw [← lt] at h5
    have hc : code = 1 ∨ code = 2 ∨ code = 3 := by omega
    rcases hc with rfl | rfl | rfl
    · refine fn_okR (E := E0) E0_tab E0_ord (fn := Go.Proofs.Tryz.f158) (by kernel_rfl) (by kernel_rfl) (fun hb => ?_)
      conv => whnf
      repeat' first | (refine Sq.cons ?_; conv => whnf) | (refine Dr.cons ?_; conv => whnf) | (refine Sq.nil ?_; conv => whnf) | (refine Dr.nil ?_; refine drawIf (by kernel_rfl) ?_; conv => whnf) | refine Vc.seq ?_ | (refine Vc.region rfl ?_; conv => whnf) | (refine Vc.draw rfl (by kernel_rfl) ?_; conv => whnf) | (refine Vc.cond ?_; conv => whnf) | refine Vc.block ?_ | (refine Vc.ret ?_; conv => whnf) | (refine Vc.skip ?_; conv => whnf) | (refine Vc.exit ?_; conv => whnf) | (refine mkSl (by omega) (by omega) ?_; conv => whnf) | (refine ifB_i (fun _ => ?_) (fun _ => ?_) <;> conv => whnf) | (refine ⟨_, spec_in _ _ _, ?_⟩; conv => whnf) | (refine ⟨_, spec_all tells (ints tells).length _ (by omega), ?_⟩; conv => whnf) | (refine rwC rfl ?_; conv => whnf) | (refine ioN (by dsimp only; decide) (by dsimp only; decide) ?_; conv => whnf)
      all_goals first
        | (exfalso; simp_all; done)
        | (exfalso; simp_all; omega)
        | skip
      refine Vc.loop2 (fun (i : Nat) (l : List UInt8) => i ≤ tells.length ∧ l = codeT 1 ++ joinT (tells.take i)) (fun i l => updL [1, 2, 58] [(5, I i), (4, T l)] []) (fun i _ => tells.length - i) 0 (codeT 1) ⟨by omega, by simp [joinT]⟩ ?_ (fun i l hi => ?_)
      · repeat' (first | exact True.intro | ((conv => whnf); first | exact True.intro | refine ⟨by rfl, ?_⟩ | refine ⟨?_, ?_⟩))
      · obtain ⟨hi, rfl⟩ := hi
        have hj := joinT_len (l := tells.take i) fun x hx => by have := hb3 x (List.mem_of_mem_take hx); omega
        rw [List.length_take, Nat.min_eq_left hi] at hj
        have hw := codeT_len 1
        conv => whnf
        (repeat' first | (refine Sq.cons ?_; conv => whnf) | (refine Dr.cons ?_; conv => whnf) | (refine Sq.nil ?_; conv => whnf) | (refine Dr.nil ?_; refine drawIf (by kernel_rfl) ?_; conv => whnf) | refine Vc.seq ?_ | (refine Vc.region rfl ?_; conv => whnf) | (refine Vc.draw rfl (by kernel_rfl) ?_; conv => whnf) | (refine Vc.cond ?_; conv => whnf) | refine Vc.block ?_ | (refine Vc.ret ?_; conv => whnf) | (refine Vc.skip ?_; conv => whnf) | (refine Vc.exit ?_; conv => whnf) | (refine mkSl (by omega) (by omega) ?_; conv => whnf))
        refine ifB_d (fun g => ?_) (fun g => ?_)
        all_goals conv => whnf
        · have hin : i < tells.length := by simp only at g; omega
          have hm := hb3 (tells.getD i 0) (by rw [List.getD_eq_getElem?_getD, List.getElem?_eq_getElem hin]; exact List.getElem_mem hin)
          have hil := itoa_len (n := tells.getD i 0) (by omega)
          repeat' first | (refine Sq.cons ?_; conv => whnf) | (refine Dr.cons ?_; conv => whnf) | (refine Sq.nil ?_; conv => whnf) | (refine Dr.nil ?_; refine drawIf (by kernel_rfl) ?_; conv => whnf) | refine Vc.seq ?_ | (refine Vc.region rfl ?_; conv => whnf) | (refine Vc.draw rfl (by kernel_rfl) ?_; conv => whnf) | (refine Vc.cond ?_; conv => whnf) | refine Vc.block ?_ | (refine Vc.ret ?_; conv => whnf) | (refine Vc.skip ?_; conv => whnf) | (refine Vc.exit ?_; conv => whnf) | (refine mkSl (by omega) (by omega) ?_; conv => whnf) | (refine ifB_i (fun _ => ?_) (fun _ => ?_) <;> conv => whnf) | (with_reducible refine catT (b := [32]) ?_ ?_; (simp only [List.length_append, List.length_singleton]; omega); rw [cat_b _ [32]]; conv => whnf) | (with_reducible refine catT ?_ ?_; (simp only [List.length_append, List.length_singleton]; omega); rw [cat_b]; conv => whnf) | (refine w64 (by first | omega | (dsimp only; omega)) (by first | omega | (dsimp only; omega)) ?_; conv => whnf) | (refine ⟨_, spec_digits (tells.getD i 0) (by omega) (by omega), ?_⟩; conv => whnf) | (refine ixN (enc := rI) (L := tells) 0 hin ?_; conv => whnf)
          refine ⟨i + 1, codeT 1 ++ joinT (tells.take i) ++ [32] ++ Lib.itoa (tells.getD i 0), ⟨by omega, by rw [joinT_take hin]; simp⟩, by simp only; omega, ?_⟩
          repeat' (first | exact True.intro | ((conv => whnf); first | exact True.intro | refine ⟨by rfl, ?_⟩ | refine ⟨?_, ?_⟩))
        · repeat' first | (refine Sq.cons ?_; conv => whnf) | (refine Dr.cons ?_; conv => whnf) | (refine Sq.nil ?_; conv => whnf) | (refine Dr.nil ?_; refine drawIf (by kernel_rfl) ?_; conv => whnf) | refine Vc.seq ?_ | (refine Vc.region rfl ?_; conv => whnf) | (refine Vc.draw rfl (by kernel_rfl) ?_; conv => whnf) | (refine Vc.cond ?_; conv => whnf) | refine Vc.block ?_ | (refine Vc.ret ?_; conv => whnf) | (refine Vc.skip ?_; conv => whnf) | (refine Vc.exit ?_; conv => whnf) | (refine mkSl (by omega) (by omega) ?_; conv => whnf) | (refine ifB_i (fun _ => ?_) (fun _ => ?_) <;> conv => whnf)
          have e : i = tells.length := by simp only at g; omega
          subst e
          exact ⟨by rw [List.take_length], rfl⟩
    · refine fn_okR (E := E0) E0_tab E0_ord (fn := Go.Proofs.Tryz.f158) (by kernel_rfl) (by kernel_rfl) (fun hb => ?_)
      conv => whnf
      repeat' first | (refine Sq.cons ?_; conv => whnf) | (refine Dr.cons ?_; conv => whnf) | (refine Sq.nil ?_; conv => whnf) | (refine Dr.nil ?_; refine drawIf (by kernel_rfl) ?_; conv => whnf) | refine Vc.seq ?_ | (refine Vc.region rfl ?_; conv => whnf) | (refine Vc.draw rfl (by kernel_rfl) ?_; conv => whnf) | (refine Vc.cond ?_; conv => whnf) | refine Vc.block ?_ | (refine Vc.ret ?_; conv => whnf) | (refine Vc.skip ?_; conv => whnf) | (refine Vc.exit ?_; conv => whnf) | (refine mkSl (by omega) (by omega) ?_; conv => whnf) | (refine ifB_i (fun _ => ?_) (fun _ => ?_) <;> conv => whnf) | (refine ⟨_, spec_in _ _ _, ?_⟩; conv => whnf) | (refine ⟨_, spec_all tells (ints tells).length _ (by omega), ?_⟩; conv => whnf) | (refine rwC rfl ?_; conv => whnf) | (refine ioN (by dsimp only; decide) (by dsimp only; decide) ?_; conv => whnf)
      all_goals first
        | (exfalso; simp_all; done)
        | (exfalso; simp_all; omega)
        | skip
      refine Vc.loop2 (fun (i : Nat) (l : List UInt8) => i ≤ tells.length ∧ l = codeT 2 ++ joinT (tells.take i)) (fun i l => updL [1, 2, 58] [(5, I i), (4, T l)] []) (fun i _ => tells.length - i) 0 (codeT 2) ⟨by omega, by simp [joinT]⟩ ?_ (fun i l hi => ?_)
      · repeat' (first | exact True.intro | ((conv => whnf); first | exact True.intro | refine ⟨by rfl, ?_⟩ | refine ⟨?_, ?_⟩))
      · obtain ⟨hi, rfl⟩ := hi
        have hj := joinT_len (l := tells.take i) fun x hx => by have := hb3 x (List.mem_of_mem_take hx); omega
        rw [List.length_take, Nat.min_eq_left hi] at hj
        have hw := codeT_len 2
        conv => whnf
        (repeat' first | (refine Sq.cons ?_; conv => whnf) | (refine Dr.cons ?_; conv => whnf) | (refine Sq.nil ?_; conv => whnf) | (refine Dr.nil ?_; refine drawIf (by kernel_rfl) ?_; conv => whnf) | refine Vc.seq ?_ | (refine Vc.region rfl ?_; conv => whnf) | (refine Vc.draw rfl (by kernel_rfl) ?_; conv => whnf) | (refine Vc.cond ?_; conv => whnf) | refine Vc.block ?_ | (refine Vc.ret ?_; conv => whnf) | (refine Vc.skip ?_; conv => whnf) | (refine Vc.exit ?_; conv => whnf) | (refine mkSl (by omega) (by omega) ?_; conv => whnf))
        refine ifB_d (fun g => ?_) (fun g => ?_)
        all_goals conv => whnf
        · have hin : i < tells.length := by simp only at g; omega
          have hm := hb3 (tells.getD i 0) (by rw [List.getD_eq_getElem?_getD, List.getElem?_eq_getElem hin]; exact List.getElem_mem hin)
          have hil := itoa_len (n := tells.getD i 0) (by omega)
          repeat' first | (refine Sq.cons ?_; conv => whnf) | (refine Dr.cons ?_; conv => whnf) | (refine Sq.nil ?_; conv => whnf) | (refine Dr.nil ?_; refine drawIf (by kernel_rfl) ?_; conv => whnf) | refine Vc.seq ?_ | (refine Vc.region rfl ?_; conv => whnf) | (refine Vc.draw rfl (by kernel_rfl) ?_; conv => whnf) | (refine Vc.cond ?_; conv => whnf) | refine Vc.block ?_ | (refine Vc.ret ?_; conv => whnf) | (refine Vc.skip ?_; conv => whnf) | (refine Vc.exit ?_; conv => whnf) | (refine mkSl (by omega) (by omega) ?_; conv => whnf) | (refine ifB_i (fun _ => ?_) (fun _ => ?_) <;> conv => whnf) | (with_reducible refine catT (b := [32]) ?_ ?_; (simp only [List.length_append, List.length_singleton]; omega); rw [cat_b _ [32]]; conv => whnf) | (with_reducible refine catT ?_ ?_; (simp only [List.length_append, List.length_singleton]; omega); rw [cat_b]; conv => whnf) | (refine w64 (by first | omega | (dsimp only; omega)) (by first | omega | (dsimp only; omega)) ?_; conv => whnf) | (refine ⟨_, spec_digits (tells.getD i 0) (by omega) (by omega), ?_⟩; conv => whnf) | (refine ixN (enc := rI) (L := tells) 0 hin ?_; conv => whnf)
          refine ⟨i + 1, codeT 2 ++ joinT (tells.take i) ++ [32] ++ Lib.itoa (tells.getD i 0), ⟨by omega, by rw [joinT_take hin]; simp⟩, by simp only; omega, ?_⟩
          repeat' (first | exact True.intro | ((conv => whnf); first | exact True.intro | refine ⟨by rfl, ?_⟩ | refine ⟨?_, ?_⟩))
        · repeat' first | (refine Sq.cons ?_; conv => whnf) | (refine Dr.cons ?_; conv => whnf) | (refine Sq.nil ?_; conv => whnf) | (refine Dr.nil ?_; refine drawIf (by kernel_rfl) ?_; conv => whnf) | refine Vc.seq ?_ | (refine Vc.region rfl ?_; conv => whnf) | (refine Vc.draw rfl (by kernel_rfl) ?_; conv => whnf) | (refine Vc.cond ?_; conv => whnf) | refine Vc.block ?_ | (refine Vc.ret ?_; conv => whnf) | (refine Vc.skip ?_; conv => whnf) | (refine Vc.exit ?_; conv => whnf) | (refine mkSl (by omega) (by omega) ?_; conv => whnf) | (refine ifB_i (fun _ => ?_) (fun _ => ?_) <;> conv => whnf)
          have e : i = tells.length := by simp only at g; omega
          subst e
          exact ⟨by rw [List.take_length], rfl⟩
    · refine fn_okR (E := E0) E0_tab E0_ord (fn := Go.Proofs.Tryz.f158) (by kernel_rfl) (by kernel_rfl) (fun hb => ?_)
      conv => whnf
      repeat' first | (refine Sq.cons ?_; conv => whnf) | (refine Dr.cons ?_; conv => whnf) | (refine Sq.nil ?_; conv => whnf) | (refine Dr.nil ?_; refine drawIf (by kernel_rfl) ?_; conv => whnf) | refine Vc.seq ?_ | (refine Vc.region rfl ?_; conv => whnf) | (refine Vc.draw rfl (by kernel_rfl) ?_; conv => whnf) | (refine Vc.cond ?_; conv => whnf) | refine Vc.block ?_ | (refine Vc.ret ?_; conv => whnf) | (refine Vc.skip ?_; conv => whnf) | (refine Vc.exit ?_; conv => whnf) | (refine mkSl (by omega) (by omega) ?_; conv => whnf) | (refine ifB_i (fun _ => ?_) (fun _ => ?_) <;> conv => whnf) | (refine ⟨_, spec_in _ _ _, ?_⟩; conv => whnf) | (refine ⟨_, spec_all tells (ints tells).length _ (by omega), ?_⟩; conv => whnf) | (refine rwC rfl ?_; conv => whnf) | (refine ioN (by dsimp only; decide) (by dsimp only; decide) ?_; conv => whnf)
      all_goals first
        | (exfalso; simp_all; done)
        | (exfalso; simp_all; omega)
        | skip
      refine Vc.loop2 (fun (i : Nat) (l : List UInt8) => i ≤ tells.length ∧ l = codeT 3 ++ joinT (tells.take i)) (fun i l => updL [1, 2, 58] [(5, I i), (4, T l)] []) (fun i _ => tells.length - i) 0 (codeT 3) ⟨by omega, by simp [joinT]⟩ ?_ (fun i l hi => ?_)
      · repeat' (first | exact True.intro | ((conv => whnf); first | exact True.intro | refine ⟨by rfl, ?_⟩ | refine ⟨?_, ?_⟩))
      · obtain ⟨hi, rfl⟩ := hi
        have hj := joinT_len (l := tells.take i) fun x hx => by have := hb3 x (List.mem_of_mem_take hx); omega
        rw [List.length_take, Nat.min_eq_left hi] at hj
        have hw := codeT_len 3
        conv => whnf
        (repeat' first | (refine Sq.cons ?_; conv => whnf) | (refine Dr.cons ?_; conv => whnf) | (refine Sq.nil ?_; conv => whnf) | (refine Dr.nil ?_; refine drawIf (by kernel_rfl) ?_; conv => whnf) | refine Vc.seq ?_ | (refine Vc.region rfl ?_; conv => whnf) | (refine Vc.draw rfl (by kernel_rfl) ?_; conv => whnf) | (refine Vc.cond ?_; conv => whnf) | refine Vc.block ?_ | (refine Vc.ret ?_; conv => whnf) | (refine Vc.skip ?_; conv => whnf) | (refine Vc.exit ?_; conv => whnf) | (refine mkSl (by omega) (by omega) ?_; conv => whnf))
        refine ifB_d (fun g => ?_) (fun g => ?_)
        all_goals conv => whnf
        · have hin : i < tells.length := by simp only at g; omega
          have hm := hb3 (tells.getD i 0) (by rw [List.getD_eq_getElem?_getD, List.getElem?_eq_getElem hin]; exact List.getElem_mem hin)
          have hil := itoa_len (n := tells.getD i 0) (by omega)
          repeat' first | (refine Sq.cons ?_; conv => whnf) | (refine Dr.cons ?_; conv => whnf) | (refine Sq.nil ?_; conv => whnf) | (refine Dr.nil ?_; refine drawIf (by kernel_rfl) ?_; conv => whnf) | refine Vc.seq ?_ | (refine Vc.region rfl ?_; conv => whnf) | (refine Vc.draw rfl (by kernel_rfl) ?_; conv => whnf) | (refine Vc.cond ?_; conv => whnf) | refine Vc.block ?_ | (refine Vc.ret ?_; conv => whnf) | (refine Vc.skip ?_; conv => whnf) | (refine Vc.exit ?_; conv => whnf) | (refine mkSl (by omega) (by omega) ?_; conv => whnf) | (refine ifB_i (fun _ => ?_) (fun _ => ?_) <;> conv => whnf) | (with_reducible refine catT (b := [32]) ?_ ?_; (simp only [List.length_append, List.length_singleton]; omega); rw [cat_b _ [32]]; conv => whnf) | (with_reducible refine catT ?_ ?_; (simp only [List.length_append, List.length_singleton]; omega); rw [cat_b]; conv => whnf) | (refine w64 (by first | omega | (dsimp only; omega)) (by first | omega | (dsimp only; omega)) ?_; conv => whnf) | (refine ⟨_, spec_digits (tells.getD i 0) (by omega) (by omega), ?_⟩; conv => whnf) | (refine ixN (enc := rI) (L := tells) 0 hin ?_; conv => whnf)
          refine ⟨i + 1, codeT 3 ++ joinT (tells.take i) ++ [32] ++ Lib.itoa (tells.getD i 0), ⟨by omega, by rw [joinT_take hin]; simp⟩, by simp only; omega, ?_⟩
          repeat' (first | exact True.intro | ((conv => whnf); first | exact True.intro | refine ⟨by rfl, ?_⟩ | refine ⟨?_, ?_⟩))
        · repeat' first | (refine Sq.cons ?_; conv => whnf) | (refine Dr.cons ?_; conv => whnf) | (refine Sq.nil ?_; conv => whnf) | (refine Dr.nil ?_; refine drawIf (by kernel_rfl) ?_; conv => whnf) | refine Vc.seq ?_ | (refine Vc.region rfl ?_; conv => whnf) | (refine Vc.draw rfl (by kernel_rfl) ?_; conv => whnf) | (refine Vc.cond ?_; conv => whnf) | refine Vc.block ?_ | (refine Vc.ret ?_; conv => whnf) | (refine Vc.skip ?_; conv => whnf) | (refine Vc.exit ?_; conv => whnf) | (refine mkSl (by omega) (by omega) ?_; conv => whnf) | (refine ifB_i (fun _ => ?_) (fun _ => ?_) <;> conv => whnf)
          have e : i = tells.length := by simp only at g; omega
          subst e
          exact ⟨by rw [List.take_length], rfl⟩
  · have e : resT r = [] := by rw [resT, if_neg hr]
    rw [e]
    refine fn_okR (E := E0) E0_tab E0_ord (fn := Go.Proofs.Tryz.f158) (by kernel_rfl) (by kernel_rfl) (fun hb => ?_)
    have lt := ints_len r.Tells
    conv => whnf
    repeat' first | (refine Sq.cons ?_; conv => whnf) | (refine Dr.cons ?_; conv => whnf) | (refine Sq.nil ?_; conv => whnf) | (refine Dr.nil ?_; refine drawIf (by kernel_rfl) ?_; conv => whnf) | refine Vc.seq ?_ | (refine Vc.region rfl ?_; conv => whnf) | (refine Vc.draw rfl (by kernel_rfl) ?_; conv => whnf) | (refine Vc.cond ?_; conv => whnf) | refine Vc.block ?_ | (refine Vc.ret ?_; conv => whnf) | (refine Vc.skip ?_; conv => whnf) | (refine Vc.exit ?_; conv => whnf) | (refine mkSl (by omega) (by omega) ?_; conv => whnf) | (refine ifB_i (fun _ => ?_) (fun _ => ?_) <;> conv => whnf) | (refine ⟨_, spec_in _ _ _, ?_⟩; conv => whnf) | (refine ⟨_, spec_all r.Tells (ints r.Tells).length _ (by omega), ?_⟩; conv => whnf)
    all_goals first
      | exact ⟨rfl, rfl⟩
      | (exfalso; refine hr (resOk_iff.2 ?_); simp_all [inB_iff]; done)
      | (exfalso; refine hr (resOk_iff.2 ?_); simp_all [inB_iff]; omega)
theorem spec_resOk (r : Rslt) : Sem P 188 [(.pure, .agg (aR r))] [] (B (resOk r)) := by
  refine fn_okR (E := E0) E0_tab E0_ord (fn := Go.Proofs.Tryz.f188) (by kernel_rfl) (by kernel_rfl) (fun hb => ?_)
  conv => whnf
  repeat' first | (refine Sq.cons ?_; conv => whnf) | (refine Dr.cons ?_; conv => whnf) | (refine Sq.nil ?_; conv => whnf) | (refine Dr.nil ?_; refine drawIf (by kernel_rfl) ?_; conv => whnf) | refine Vc.seq ?_ | (refine Vc.region rfl ?_; conv => whnf) | (refine Vc.draw rfl (by kernel_rfl) ?_; conv => whnf) | (refine Vc.cond ?_; conv => whnf) | refine Vc.block ?_ | (refine Vc.ret ?_; conv => whnf) | (refine Vc.skip ?_; conv => whnf) | (refine Vc.exit ?_; conv => whnf) | (refine mkSl (by omega) (by omega) ?_; conv => whnf) | (refine ifB_i (fun _ => ?_) (fun _ => ?_) <;> conv => whnf) | (refine ⟨_, spec_resText r, ?_⟩; conv => whnf)
  exact rB (by rw [← resT_ne, ← text_ne])
end Cc
end
section
namespace Cc
open Go Go.AM
set_option maxRecDepth 100000
set_option maxHeartbeats 4000000
theorem log_1 (p : Plan) (hc : inB p.Clients 0 4 = true) (x : LogD) : Sem P 185 [(.pure, .agg (aO x)), (.pure, .one (.fp [] (aPl p) 0))] [] (B (!(callB p x.Call && resOk x.Res))) := by
  refine fn_okR (E := E0) E0_tab E0_ord (fn := Go.Proofs.Tryz.f185) (by kernel_rfl) (by kernel_rfl) (fun hb => ?_)
  conv => whnf
  repeat' first | (refine Sq.cons ?_; conv => whnf) | (refine Dr.cons ?_; conv => whnf) | (refine Sq.nil ?_; conv => whnf) | (refine Dr.nil ?_; refine drawIf (by kernel_rfl) ?_; conv => whnf) | refine Vc.seq ?_ | (refine Vc.region rfl ?_; conv => whnf) | (refine Vc.draw rfl (by kernel_rfl) ?_; conv => whnf) | (refine Vc.cond ?_; conv => whnf) | refine Vc.block ?_ | (refine Vc.ret ?_; conv => whnf) | (refine Vc.skip ?_; conv => whnf) | (refine Vc.exit ?_; conv => whnf) | (refine mkSl (by omega) (by omega) ?_; conv => whnf) | (refine ifB_i (fun _ => ?_) (fun _ => ?_) <;> conv => whnf) | (refine ⟨_, impl_callOk p x.Call hc, ?_⟩; conv => whnf) | (refine ⟨_, impl_resOk x.Res, ?_⟩; conv => whnf)
  all_goals exact rB (by simp_all)
theorem log_any_ix (p : Plan) (hc : inB p.Clients 0 4 = true) (l : List LogD) : Sem P 279 [(.pure, .one (sOs l)), (.pure, .one (.fn 185 [.fp [] (aPl p) 0]))] [] (I (idxOf (fun (x : LogD) => !(callB p x.Call && resOk x.Res)) l)) := by
  refine fn_okR (E := E0) E0_tab E0_ord (fn := Go.Proofs.Tryz.f279) (by kernel_rfl) (by kernel_rfl) (fun hb => ?_)
  have la : (l.map eO).length = l.length := List.length_map ..
  have hb1 : (l.map eO).length ≤ 1125899906842624 := hb.1.1
  conv => whnf
  (repeat' first | (refine Sq.cons ?_; conv => whnf) | (refine Dr.cons ?_; conv => whnf) | (refine Sq.nil ?_; conv => whnf) | (refine Dr.nil ?_; refine drawIf (by kernel_rfl) ?_; conv => whnf) | refine Vc.seq ?_ | (refine Vc.region rfl ?_; conv => whnf) | (refine Vc.draw rfl (by kernel_rfl) ?_; conv => whnf) | (refine Vc.cond ?_; conv => whnf) | refine Vc.block ?_ | (refine Vc.ret ?_; conv => whnf) | (refine Vc.skip ?_; conv => whnf) | (refine Vc.exit ?_; conv => whnf) | (refine mkSl (by omega) (by omega) ?_; conv => whnf))
  refine Vc.loop { i : Nat // ∀ j, j < i → j < l.length → (fun (x : LogD) => !(callB p x.Call && resOk x.Res)) (l.getD j default) = false } (fun i => updL [0, 1, 7] [(8, I i.1)] []) (fun i => l.length - i.1) ⟨0, by simp⟩ ?_ (fun i => ?_)
  · repeat' (first | exact True.intro | ((conv => whnf); first | exact True.intro | refine ⟨by rfl, ?_⟩ | refine ⟨?_, ?_⟩))
  · have hi := i.2
    conv => whnf
    (repeat' first | (refine Sq.cons ?_; conv => whnf) | (refine Dr.cons ?_; conv => whnf) | (refine Sq.nil ?_; conv => whnf) | (refine Dr.nil ?_; refine drawIf (by kernel_rfl) ?_; conv => whnf) | refine Vc.seq ?_ | (refine Vc.region rfl ?_; conv => whnf) | (refine Vc.draw rfl (by kernel_rfl) ?_; conv => whnf) | (refine Vc.cond ?_; conv => whnf) | refine Vc.block ?_ | (refine Vc.ret ?_; conv => whnf) | (refine Vc.skip ?_; conv => whnf) | (refine Vc.exit ?_; conv => whnf) | (refine mkSl (by omega) (by omega) ?_; conv => whnf))
    refine ifB_d (fun g => ?_) (fun g => ?_)
    all_goals conv => whnf
    · repeat' first | (refine Sq.cons ?_; conv => whnf) | (refine Dr.cons ?_; conv => whnf) | (refine Sq.nil ?_; conv => whnf) | (refine Dr.nil ?_; refine drawIf (by kernel_rfl) ?_; conv => whnf) | refine Vc.seq ?_ | (refine Vc.region rfl ?_; conv => whnf) | (refine Vc.draw rfl (by kernel_rfl) ?_; conv => whnf) | (refine Vc.cond ?_; conv => whnf) | refine Vc.block ?_ | (refine Vc.ret ?_; conv => whnf) | (refine Vc.skip ?_; conv => whnf) | (refine Vc.exit ?_; conv => whnf) | (refine mkSl (by omega) (by omega) ?_; conv => whnf) | (refine ifB_i (fun _ => ?_) (fun _ => ?_) <;> conv => whnf) | (refine ixN (enc := eO) default (by omega) ?_; conv => whnf) | (refine ⟨_, log_1 p hc _, ?_⟩; conv => whnf) | (refine w64 (by omega) (by omega) ?_; conv => whnf)
      · rename_i h
        exact rI' (idx_hit (p := fun (x : LogD) => !(callB p x.Call && resOk x.Res)) default (by omega) h fun j hj => hi j hj (by omega)).symm
      · rename_i h
        refine ⟨⟨i.1 + 1, fun j hj hl => ?_⟩, ?_, ?_⟩
        · by_cases hji : j < i.1
          · exact hi j hji hl
          · obtain rfl : j = i.1 := by omega
            exact h
        · simp only; omega
        · repeat' (first | exact True.intro | ((conv => whnf); first | exact True.intro | refine ⟨by rfl, ?_⟩ | refine ⟨?_, ?_⟩))
    · (repeat' first | (refine Sq.cons ?_; conv => whnf) | (refine Dr.cons ?_; conv => whnf) | (refine Sq.nil ?_; conv => whnf) | (refine Dr.nil ?_; refine drawIf (by kernel_rfl) ?_; conv => whnf) | refine Vc.seq ?_ | (refine Vc.region rfl ?_; conv => whnf) | (refine Vc.draw rfl (by kernel_rfl) ?_; conv => whnf) | (refine Vc.cond ?_; conv => whnf) | refine Vc.block ?_ | (refine Vc.ret ?_; conv => whnf) | (refine Vc.skip ?_; conv => whnf) | (refine Vc.exit ?_; conv => whnf) | (refine mkSl (by omega) (by omega) ?_; conv => whnf))
      exact rI' (idx_none (p := fun (x : LogD) => !(callB p x.Call && resOk x.Res)) default fun j hj => hi j (by omega) hj).symm
theorem log_any (p : Plan) (hc : inB p.Clients 0 4 = true) (l : List LogD) : Sem P 184 [(.pure, .one (sOs l)), (.pure, .one (.fn 185 [.fp [] (aPl p) 0]))] [] (B (l.any fun (x : LogD) => !(callB p x.Call && resOk x.Res))) := by
  refine fn_okR (E := E0) E0_tab E0_ord (fn := Go.Proofs.Tryz.f184) (by kernel_rfl) (by kernel_rfl) (fun hb => ?_)
  conv => whnf
  repeat' first | (refine Sq.cons ?_; conv => whnf) | (refine Dr.cons ?_; conv => whnf) | (refine Sq.nil ?_; conv => whnf) | (refine Dr.nil ?_; refine drawIf (by kernel_rfl) ?_; conv => whnf) | refine Vc.seq ?_ | (refine Vc.region rfl ?_; conv => whnf) | (refine Vc.draw rfl (by kernel_rfl) ?_; conv => whnf) | (refine Vc.cond ?_; conv => whnf) | refine Vc.block ?_ | (refine Vc.ret ?_; conv => whnf) | (refine Vc.skip ?_; conv => whnf) | (refine Vc.exit ?_; conv => whnf) | (refine mkSl (by omega) (by omega) ?_; conv => whnf) | (refine ifB_i (fun _ => ?_) (fun _ => ?_) <;> conv => whnf) | (refine ⟨_, log_any_ix p hc l, ?_⟩; conv => whnf)
  exact rB (idx_any _ _)
theorem impl_logOk (p : Plan) (hc : inB p.Clients 0 4 = true) (l : List LogD) : Sem P 90 [(.pure, .agg (aPl p)), (.pure, .one (sOs l))] [] (B (logB p l)) := by
  refine fn_okR (E := E0) E0_tab E0_ord (fn := Go.Proofs.Tryz.f90) (by kernel_rfl) (by kernel_rfl) (fun hb => ?_)
  have la : (l.map eO).length = l.length := List.length_map ..
  conv => whnf
  repeat' first | (refine Sq.cons ?_; conv => whnf) | (refine Dr.cons ?_; conv => whnf) | (refine Sq.nil ?_; conv => whnf) | (refine Dr.nil ?_; refine drawIf (by kernel_rfl) ?_; conv => whnf) | refine Vc.seq ?_ | (refine Vc.region rfl ?_; conv => whnf) | (refine Vc.draw rfl (by kernel_rfl) ?_; conv => whnf) | (refine Vc.cond ?_; conv => whnf) | refine Vc.block ?_ | (refine Vc.ret ?_; conv => whnf) | (refine Vc.skip ?_; conv => whnf) | (refine Vc.exit ?_; conv => whnf) | (refine mkSl (by omega) (by omega) ?_; conv => whnf) | (refine ifB_i (fun _ => ?_) (fun _ => ?_) <;> conv => whnf) | (refine ⟨_, log_any p hc l, ?_⟩; conv => whnf)
  all_goals first
    | (refine rB ?_; rw [any_all]; simp_all [logB]; intros; omega)
    | (refine rB ?_; simp_all [logB]; intros; omega)
theorem spec_log (p : Plan) (hc : inB p.Clients 0 4 = true) (l : List LogD) : Sem P 92 [(.pure, .agg (aPl p)), (.pure, .one (sOs l))] [] (B (logB p l)) := by
  refine fn_okR (E := E0) E0_tab E0_ord (fn := Go.Proofs.Tryz.f92) (by kernel_rfl) (by kernel_rfl) (fun hb => ?_)
  have la : (l.map eO).length = l.length := List.length_map ..
  have hb1 : (l.map eO).length ≤ 1125899906842624 := (hb.2.1).1
  conv => whnf
  repeat' first | (refine Sq.cons ?_; conv => whnf) | (refine Dr.cons ?_; conv => whnf) | (refine Sq.nil ?_; conv => whnf) | (refine Dr.nil ?_; refine drawIf (by kernel_rfl) ?_; conv => whnf) | refine Vc.seq ?_ | (refine Vc.region rfl ?_; conv => whnf) | (refine Vc.draw rfl (by kernel_rfl) ?_; conv => whnf) | (refine Vc.cond ?_; conv => whnf) | refine Vc.block ?_ | (refine Vc.ret ?_; conv => whnf) | (refine Vc.skip ?_; conv => whnf) | (refine Vc.exit ?_; conv => whnf) | (refine mkSl (by omega) (by omega) ?_; conv => whnf) | (refine ifB_i (fun _ => ?_) (fun _ => ?_) <;> conv => whnf)
  · refine rB ?_; simp_all [logB]; intros; omega
  · rename_i h
    refine Vc.loop1 (fun (i : Nat) => i ≤ l.length ∧ ∀ j, j < i → (fun x => callB p x.Call && resOk x.Res) (l.getD j default) = true) (fun i => updL [1, 2] [(5, I i)] []) (fun i => l.length - i) 0 ⟨by omega, fun j hj => absurd hj (Nat.not_lt_zero j)⟩ ?_ (fun i hi => ?_)
    · repeat' (first | exact True.intro | ((conv => whnf); first | exact True.intro | refine ⟨by rfl, ?_⟩ | refine ⟨?_, ?_⟩))
    · obtain ⟨hi, ho⟩ := hi
      have hlm : (l.map eO).length = l.length := List.length_map ..
      conv => whnf
      (repeat' first | (refine Sq.cons ?_; conv => whnf) | (refine Dr.cons ?_; conv => whnf) | (refine Sq.nil ?_; conv => whnf) | (refine Dr.nil ?_; refine drawIf (by kernel_rfl) ?_; conv => whnf) | refine Vc.seq ?_ | (refine Vc.region rfl ?_; conv => whnf) | (refine Vc.draw rfl (by kernel_rfl) ?_; conv => whnf) | (refine Vc.cond ?_; conv => whnf) | refine Vc.block ?_ | (refine Vc.ret ?_; conv => whnf) | (refine Vc.skip ?_; conv => whnf) | (refine Vc.exit ?_; conv => whnf) | (refine mkSl (by omega) (by omega) ?_; conv => whnf))
      refine ifB_d (fun g => ?_) (fun g => ?_)
      all_goals conv => whnf
      · repeat' first | (refine Sq.cons ?_; conv => whnf) | (refine Dr.cons ?_; conv => whnf) | (refine Sq.nil ?_; conv => whnf) | (refine Dr.nil ?_; refine drawIf (by kernel_rfl) ?_; conv => whnf) | refine Vc.seq ?_ | (refine Vc.region rfl ?_; conv => whnf) | (refine Vc.draw rfl (by kernel_rfl) ?_; conv => whnf) | (refine Vc.cond ?_; conv => whnf) | refine Vc.block ?_ | (refine Vc.ret ?_; conv => whnf) | (refine Vc.skip ?_; conv => whnf) | (refine Vc.exit ?_; conv => whnf) | (refine mkSl (by omega) (by omega) ?_; conv => whnf) | (refine ifB_i (fun _ => ?_) (fun _ => ?_) <;> conv => whnf) | (refine ixN (enc := eO) default (by omega) ?_; conv => whnf) | (refine ⟨_, spec_call p (l.getD i default).Call hc, ?_⟩; conv => whnf) | (refine ⟨_, spec_resOk (l.getD i default).Res, ?_⟩; conv => whnf) | (refine w64 (by first | omega | (dsimp only; omega)) (by first | omega | (dsimp only; omega)) ?_; conv => whnf)
        all_goals first
          | (refine ⟨i + 1, ⟨by omega, fun j hj => ?_⟩, by simp only; omega, ?_⟩
             · by_cases h' : j < i
               · exact ho j h'
               · obtain rfl : j = i := by omega
                 clear ho
                 simp_all
             · repeat' (first | exact True.intro | ((conv => whnf); first | exact True.intro | refine ⟨by rfl, ?_⟩ | refine ⟨?_, ?_⟩)))
          | (have hp : (fun x => callB p x.Call && resOk x.Res) (l.getD i default) = false := by (clear ho; simp_all )
             have hn : l.all (fun x => callB p x.Call && resOk x.Res) = false := all_not default (j := i) (by omega) hp
             exact rB (by simp only [logB, hn, Bool.and_false]))
      · have hall : l.all (fun x => callB p x.Call && resOk x.Res) = true := all_get default fun j hj => ho j (by omega)
        repeat' first | (refine Sq.cons ?_; conv => whnf) | (refine Dr.cons ?_; conv => whnf) | (refine Sq.nil ?_; conv => whnf) | (refine Dr.nil ?_; refine drawIf (by kernel_rfl) ?_; conv => whnf) | refine Vc.seq ?_ | (refine Vc.region rfl ?_; conv => whnf) | (refine Vc.draw rfl (by kernel_rfl) ?_; conv => whnf) | (refine Vc.cond ?_; conv => whnf) | refine Vc.block ?_ | (refine Vc.ret ?_; conv => whnf) | (refine Vc.skip ?_; conv => whnf) | (refine Vc.exit ?_; conv => whnf) | (refine mkSl (by omega) (by omega) ?_; conv => whnf) | (refine ifB_i (fun _ => ?_) (fun _ => ?_) <;> conv => whnf) | (refine ⟨_, spec_call p (l.getD i default).Call hc, ?_⟩; conv => whnf) | (refine ⟨_, spec_resOk (l.getD i default).Res, ?_⟩; conv => whnf) | (refine w64 (by first | omega | (dsimp only; omega)) (by first | omega | (dsimp only; omega)) ?_; conv => whnf)
        (have h6 : l.length ≤ 100 := by simp at h; omega); exact rB (by simp only [logB, hall, Bool.and_true, decide_eq_true h6])
end Cc
end
section
namespace Cc
open Go Go.AM
set_option maxRecDepth 100000
set_option maxHeartbeats 4000000
theorem plan_clients {p : Plan} (h : planOk p = true) : inB p.Clients 0 4 = true := by
  simp only [planOk, Bool.and_eq_true] at h
  have := inB_iff.1 h.1.1.1
  exact inB_iff.2 (by omega)
theorem plan_start {p : Plan} (h : planOk p = true) : p.Start.length = 3 := by
  simp only [planOk, Bool.and_eq_true] at h
  exact (within_iff.1 h.1.2).1
theorem logB_iff {p : Plan} {l : List LogD} : logB p l = true ↔ l.length ≤ 100 ∧ ∀ x ∈ l, callB p x.Call = true ∧ resOk x.Res = true := by
  simp [logB]
theorem call_act {p : Plan} {c : Call} {q : Prop} (h : callB p c = true ∧ q) : 0 ≤ c.Act ∧ c.Act < p.Acts.length := by
  have h := h.1
  simp only [callB, Bool.and_eq_true] at h
  have := inB_iff.1 h.1.2
  omega
theorem app_res (l : List Rslt) (r : Rslt) : l.map eR ++ [eR r] = (l ++ [r]).map eR := by simp
theorem impl_serRun (p : Plan) (l : List LogD) (h : (planOk p && logB p l) = true) : Sem P 15 [(.pure, .agg (aPl p)), (.pure, .one (sOs l))] [] (.tup [(false, [sRs (serRun p l).1]), (false, [fI (serRun p l).2])]) := by
  have e0 : serRun p l = serGo p l p.Start := by rw [serRun, if_pos h]
  obtain ⟨hp, hl⟩ : planOk p = true ∧ logB p l = true := by simpa using h
  have hc : inB p.Clients 0 4 = true := plan_clients hp
  have hs : p.Start.length = 3 := plan_start hp
  obtain ⟨h100, hcall⟩ := logB_iff.1 hl
  rw [e0]
  refine fn_okR (E := E0) E0_tab E0_ord (fn := Go.Proofs.Tryz.f15) (by kernel_rfl) (by kernel_rfl) (fun hb => ?_)
  have la : (l.map eO).length = l.length := List.length_map ..
  have lp : (p.Acts.map eA).length = p.Acts.length := List.length_map ..
  have ls := ints_len p.Start
  conv => whnf
  repeat' first | (refine Sq.cons ?_; conv => whnf) | (refine Dr.cons ?_; conv => whnf) | (refine Sq.nil ?_; conv => whnf) | (refine Dr.nil ?_; refine drawIf (by kernel_rfl) ?_; conv => whnf) | refine Vc.seq ?_ | (refine Vc.region rfl ?_; conv => whnf) | (refine Vc.draw rfl (by kernel_rfl) ?_; conv => whnf) | (refine Vc.cond ?_; conv => whnf) | refine Vc.block ?_ | (refine Vc.ret ?_; conv => whnf) | (refine Vc.skip ?_; conv => whnf) | (refine Vc.exit ?_; conv => whnf) | (refine mkSl (by omega) (by omega) ?_; conv => whnf) | (refine ifB_i (fun _ => ?_) (fun _ => ?_) <;> conv => whnf) | (refine ⟨_, impl_planOk p, ?_⟩; conv => whnf) | (refine ⟨_, impl_logOk p hc l, ?_⟩; conv => whnf) | (refine ⟨_, ints_clone p.Start (by omega), ?_⟩; conv => whnf)
  · rename_i g; rw [hp] at g; cases g
  · rename_i g; rw [hl] at g; cases g
  · refine Vc.loop3 (fun (i : Nat) (rs : List Rslt) (vals : List Int) => i ≤ l.length ∧ rs.length = i ∧ serGo p l p.Start = (rs ++ (serGo p (l.drop i) vals).1, (serGo p (l.drop i) vals).2)) (fun i rs vals => updL [2, 4, 5, 24, 25, 51, 52] [(26, I i), (6, .one (.ref 256000)), (7, .one (fI vals))] [(256000, .arr 37 (rs.map eR) false)]) (fun i _ _ => l.length - i) 0 [] p.Start ⟨by omega, rfl, rfl⟩ ?_ (fun i rs vals hi => ?_)
    · repeat' (first | exact True.intro | ((conv => whnf); first | exact True.intro | refine ⟨by rfl, ?_⟩ | refine ⟨?_, ?_⟩))
    · obtain ⟨hi, hr, hg⟩ := hi
      have lr : (rs.map eR).length = rs.length := List.length_map ..
      conv => whnf
      (repeat' first | (refine Sq.cons ?_; conv => whnf) | (refine Dr.cons ?_; conv => whnf) | (refine Sq.nil ?_; conv => whnf) | (refine Dr.nil ?_; refine drawIf (by kernel_rfl) ?_; conv => whnf) | refine Vc.seq ?_ | (refine Vc.region rfl ?_; conv => whnf) | (refine Vc.draw rfl (by kernel_rfl) ?_; conv => whnf) | (refine Vc.cond ?_; conv => whnf) | refine Vc.block ?_ | (refine Vc.ret ?_; conv => whnf) | (refine Vc.skip ?_; conv => whnf) | (refine Vc.exit ?_; conv => whnf) | (refine mkSl (by omega) (by omega) ?_; conv => whnf))
      refine ifB_d (fun g => ?_) (fun g => ?_)
      all_goals conv => whnf
      · have hil : i < l.length := by omega
        obtain ⟨x, hx⟩ : ∃ x, l[i]? = some x := ⟨_, List.getElem?_eq_getElem hil⟩
        have hxc := hcall x (List.mem_of_getElem? hx)
        have hd : l.drop i = x :: l.drop (i + 1) := by
          rw [List.drop_eq_getElem_cons hil]
          rw [List.getElem?_eq_getElem hil] at hx
          rw [Option.some.inj hx]
        rw [hd, serGo] at hg
        have hact := call_act hxc
        repeat' first | (refine Sq.cons ?_; conv => whnf) | (refine Dr.cons ?_; conv => whnf) | (refine Sq.nil ?_; conv => whnf) | (refine Dr.nil ?_; refine drawIf (by kernel_rfl) ?_; conv => whnf) | refine Vc.seq ?_ | (refine Vc.region rfl ?_; conv => whnf) | (refine Vc.draw rfl (by kernel_rfl) ?_; conv => whnf) | (refine Vc.cond ?_; conv => whnf) | refine Vc.block ?_ | (refine Vc.ret ?_; conv => whnf) | (refine Vc.skip ?_; conv => whnf) | (refine Vc.exit ?_; conv => whnf) | (refine mkSl (by omega) (by omega) ?_; conv => whnf) | (refine ifB_i (fun _ => ?_) (fun _ => ?_) <;> conv => whnf) | (refine ixE (enc := eO) hx ?_; conv => whnf) | (refine ixI (enc := eA) (L := p.Acts) [] hact.1 hact.2 ?_; conv => whnf) | (refine ⟨_, impl_actRun (p.Acts.getD x.Call.Act.toNat []) vals x.Call.Args, ?_⟩; conv => whnf) | (refine w64 (by first | omega | (dsimp only; omega)) (by first | omega | (dsimp only; omega)) ?_; conv => whnf) | (refine apN (by simp; omega) ?_; conv => whnf)
        refine ⟨i + 1, rs ++ [(actRun (p.Acts.getD x.Call.Act.toNat []) vals x.Call.Args).1], (actRun (p.Acts.getD x.Call.Act.toNat []) vals x.Call.Args).2, ⟨by omega, by simp [hr], by rw [hg]; simp⟩, by simp only; omega, ?_⟩
        repeat' (first | exact True.intro | ((conv => whnf); first | exact True.intro | refine ⟨by rfl, ?_⟩ | refine ⟨by first | omega | (show (_ : Int) = _; dsimp only; omega) | exact app_res _ _, ?_⟩ | refine ⟨?_, ?_⟩))
      · repeat' first | (refine Sq.cons ?_; conv => whnf) | (refine Dr.cons ?_; conv => whnf) | (refine Sq.nil ?_; conv => whnf) | (refine Dr.nil ?_; refine drawIf (by kernel_rfl) ?_; conv => whnf) | refine Vc.seq ?_ | (refine Vc.region rfl ?_; conv => whnf) | (refine Vc.draw rfl (by kernel_rfl) ?_; conv => whnf) | (refine Vc.cond ?_; conv => whnf) | refine Vc.block ?_ | (refine Vc.ret ?_; conv => whnf) | (refine Vc.skip ?_; conv => whnf) | (refine Vc.exit ?_; conv => whnf) | (refine mkSl (by omega) (by omega) ?_; conv => whnf) | (refine ifB_i (fun _ => ?_) (fun _ => ?_) <;> conv => whnf)
        have e : i = l.length := by omega
        subst e
        rw [List.drop_length, serGo] at hg
        exact ⟨by rw [hg]; simp, rfl⟩
theorem impl_serRun0 (p : Plan) (l : List LogD) (h : (planOk p && logB p l) = false) : Sem P 15 [(.pure, .agg (aPl p)), (.pure, .one (sOs l))] [] (.tup [(false, [sRs []]), (false, [sI []])]) := by
  refine fn_okR (E := E0) E0_tab E0_ord (fn := Go.Proofs.Tryz.f15) (by kernel_rfl) (by kernel_rfl) (fun hb => ?_)
  conv => whnf
  by_cases hp : planOk p = true
  · have hc : inB p.Clients 0 4 = true := plan_clients hp
    repeat' first | (refine Sq.cons ?_; conv => whnf) | (refine Dr.cons ?_; conv => whnf) | (refine Sq.nil ?_; conv => whnf) | (refine Dr.nil ?_; refine drawIf (by kernel_rfl) ?_; conv => whnf) | refine Vc.seq ?_ | (refine Vc.region rfl ?_; conv => whnf) | (refine Vc.draw rfl (by kernel_rfl) ?_; conv => whnf) | (refine Vc.cond ?_; conv => whnf) | refine Vc.block ?_ | (refine Vc.ret ?_; conv => whnf) | (refine Vc.skip ?_; conv => whnf) | (refine Vc.exit ?_; conv => whnf) | (refine mkSl (by omega) (by omega) ?_; conv => whnf) | (refine ifB_i (fun _ => ?_) (fun _ => ?_) <;> conv => whnf) | (refine ⟨_, impl_planOk p, ?_⟩; conv => whnf) | (refine ⟨_, impl_logOk p hc l, ?_⟩; conv => whnf)
    all_goals first
      | exact ⟨rfl, rfl⟩
      | (exfalso; simp_all; done)
  · repeat' first | (refine Sq.cons ?_; conv => whnf) | (refine Dr.cons ?_; conv => whnf) | (refine Sq.nil ?_; conv => whnf) | (refine Dr.nil ?_; refine drawIf (by kernel_rfl) ?_; conv => whnf) | refine Vc.seq ?_ | (refine Vc.region rfl ?_; conv => whnf) | (refine Vc.draw rfl (by kernel_rfl) ?_; conv => whnf) | (refine Vc.cond ?_; conv => whnf) | refine Vc.block ?_ | (refine Vc.ret ?_; conv => whnf) | (refine Vc.skip ?_; conv => whnf) | (refine Vc.exit ?_; conv => whnf) | (refine mkSl (by omega) (by omega) ?_; conv => whnf) | (refine ifB_i (fun _ => ?_) (fun _ => ?_) <;> conv => whnf) | (refine ⟨_, impl_planOk p, ?_⟩; conv => whnf)
    all_goals first
      | exact ⟨rfl, rfl⟩
      | (exfalso; simp_all; done)
theorem spec_serRun (p : Plan) (l : List LogD) (h : (planOk p && logB p l) = true) : Sem P 16 [(.pure, .agg (aPl p)), (.pure, .one (sOs l))] [] (.tup [(false, [sRs (serRun p l).1]), (false, [fI (serRun p l).2])]) := by
  have e0 : serRun p l = serGo p l p.Start := by rw [serRun, if_pos h]
  obtain ⟨hp, hl⟩ : planOk p = true ∧ logB p l = true := by simpa using h
  have hc : inB p.Clients 0 4 = true := plan_clients hp
  have hs : p.Start.length = 3 := plan_start hp
  obtain ⟨h100, hcall⟩ := logB_iff.1 hl
  rw [e0]
  refine fn_okR (E := { E0 with fz := [(5, [256192])] }) E0_tab E0_ord (fn := Go.Proofs.Tryz.f16) (by kernel_rfl) (by kernel_rfl) (fun hb => ?_)
  have la : (l.map eO).length = l.length := List.length_map ..
  have lp : (p.Acts.map eA).length = p.Acts.length := List.length_map ..
  have ls := ints_len p.Start
  conv => whnf
  repeat' first | (refine Sq.cons ?_; conv => whnf) | (refine Dr.cons ?_; conv => whnf) | (refine Sq.nil ?_; conv => whnf) | (refine Dr.nil ?_; refine drawIf (by kernel_rfl) ?_; conv => whnf) | refine Vc.seq ?_ | (refine Vc.region rfl ?_; conv => whnf) | (refine Vc.draw rfl (by kernel_rfl) ?_; conv => whnf) | (refine Vc.cond ?_; conv => whnf) | refine Vc.block ?_ | (refine Vc.ret ?_; conv => whnf) | (refine Vc.skip ?_; conv => whnf) | (refine Vc.exit ?_; conv => whnf) | (refine mkSl (by omega) (by omega) ?_; conv => whnf) | (refine ifB_i (fun _ => ?_) (fun _ => ?_) <;> conv => whnf) | (refine ⟨_, spec_planOk p, ?_⟩; conv => whnf) | (refine ⟨_, spec_log p hc l, ?_⟩; conv => whnf) | (refine apN (by simp; omega) ?_; conv => whnf) | (refine apP (prim_ints _) ?_; conv => whnf)
  · rename_i g; rw [hp] at g; cases g
  · rename_i g; rw [hl] at g; cases g
  · refine Vc.loop3 (fun (i : Nat) (rs : List Rslt) (vals : List Int) => i ≤ l.length ∧ rs.length = i ∧ serGo p l p.Start = (rs ++ (serGo p (l.drop i) vals).1, (serGo p (l.drop i) vals).2)) (fun i rs vals => updL [1, 2, 4, 5, 59, 60] [(8, I i), (7, .one (.ref 320000)), (6, .one (fI vals))] [(320000, .arr 37 (rs.map eR) false)]) (fun i _ _ => l.length - i) 0 [] p.Start ⟨by omega, rfl, rfl⟩ ?_ (fun i rs vals hi => ?_)
    · repeat' (first | exact True.intro | ((conv => whnf); first | exact True.intro | refine ⟨by rfl, ?_⟩ | refine ⟨?_, ?_⟩))
    · obtain ⟨hi, hr, hg⟩ := hi
      have lr : (rs.map eR).length = rs.length := List.length_map ..
      conv => whnf
      (repeat' first | (refine Sq.cons ?_; conv => whnf) | (refine Dr.cons ?_; conv => whnf) | (refine Sq.nil ?_; conv => whnf) | (refine Dr.nil ?_; refine drawIf (by kernel_rfl) ?_; conv => whnf) | refine Vc.seq ?_ | (refine Vc.region rfl ?_; conv => whnf) | (refine Vc.draw rfl (by kernel_rfl) ?_; conv => whnf) | (refine Vc.cond ?_; conv => whnf) | refine Vc.block ?_ | (refine Vc.ret ?_; conv => whnf) | (refine Vc.skip ?_; conv => whnf) | (refine Vc.exit ?_; conv => whnf) | (refine mkSl (by omega) (by omega) ?_; conv => whnf))
      refine ifB_d (fun g => ?_) (fun g => ?_)
      all_goals conv => whnf
      · have hil : i < l.length := by omega
        obtain ⟨x, hx⟩ : ∃ x, l[i]? = some x := ⟨_, List.getElem?_eq_getElem hil⟩
        have hxc := hcall x (List.mem_of_getElem? hx)
        have hd : l.drop i = x :: l.drop (i + 1) := by
          rw [List.drop_eq_getElem_cons hil]
          rw [List.getElem?_eq_getElem hil] at hx
          rw [Option.some.inj hx]
        rw [hd, serGo] at hg
        have hact := call_act hxc
        repeat' first | (refine Sq.cons ?_; conv => whnf) | (refine Dr.cons ?_; conv => whnf) | (refine Sq.nil ?_; conv => whnf) | (refine Dr.nil ?_; refine drawIf (by kernel_rfl) ?_; conv => whnf) | refine Vc.seq ?_ | (refine Vc.region rfl ?_; conv => whnf) | (refine Vc.draw rfl (by kernel_rfl) ?_; conv => whnf) | (refine Vc.cond ?_; conv => whnf) | refine Vc.block ?_ | (refine Vc.ret ?_; conv => whnf) | (refine Vc.skip ?_; conv => whnf) | (refine Vc.exit ?_; conv => whnf) | (refine mkSl (by omega) (by omega) ?_; conv => whnf) | (refine ifB_i (fun _ => ?_) (fun _ => ?_) <;> conv => whnf) | (refine ixE (enc := eO) hx ?_; conv => whnf) | (refine ixI (enc := eA) (L := p.Acts) [] hact.1 hact.2 ?_; conv => whnf) | (refine ⟨_, spec_actRun (p.Acts.getD x.Call.Act.toNat []) vals x.Call.Args, ?_⟩; conv => whnf) | (refine w64 (by first | omega | (dsimp only; omega)) (by first | omega | (dsimp only; omega)) ?_; conv => whnf) | (refine apN (by simp; omega) ?_; conv => whnf)
        refine ⟨i + 1, rs ++ [(actRun (p.Acts.getD x.Call.Act.toNat []) vals x.Call.Args).1], (actRun (p.Acts.getD x.Call.Act.toNat []) vals x.Call.Args).2, ⟨by omega, by simp [hr], by rw [hg]; simp⟩, by simp only; omega, ?_⟩
        repeat' (first | exact True.intro | ((conv => whnf); first | exact True.intro | refine ⟨by rfl, ?_⟩ | refine ⟨by first | omega | (show (_ : Int) = _; dsimp only; omega) | exact app_res _ _, ?_⟩ | refine ⟨?_, ?_⟩))
      · repeat' first | (refine Sq.cons ?_; conv => whnf) | (refine Dr.cons ?_; conv => whnf) | (refine Sq.nil ?_; conv => whnf) | (refine Dr.nil ?_; refine drawIf (by kernel_rfl) ?_; conv => whnf) | refine Vc.seq ?_ | (refine Vc.region rfl ?_; conv => whnf) | (refine Vc.draw rfl (by kernel_rfl) ?_; conv => whnf) | (refine Vc.cond ?_; conv => whnf) | refine Vc.block ?_ | (refine Vc.ret ?_; conv => whnf) | (refine Vc.skip ?_; conv => whnf) | (refine Vc.exit ?_; conv => whnf) | (refine mkSl (by omega) (by omega) ?_; conv => whnf) | (refine ifB_i (fun _ => ?_) (fun _ => ?_) <;> conv => whnf)
        have e : i = l.length := by omega
        subst e
        rw [List.drop_length, serGo] at hg
        exact ⟨by rw [hg]; simp, rfl⟩
theorem spec_serRun0 (p : Plan) (l : List LogD) (h : (planOk p && logB p l) = false) : Sem P 16 [(.pure, .agg (aPl p)), (.pure, .one (sOs l))] [] (.tup [(false, [sRs []]), (false, [sI []])]) := by
  refine fn_okR (E := E0) E0_tab E0_ord (fn := Go.Proofs.Tryz.f16) (by kernel_rfl) (by kernel_rfl) (fun hb => ?_)
  conv => whnf
  by_cases hp : planOk p = true
  · have hc : inB p.Clients 0 4 = true := plan_clients hp
    repeat' first | (refine Sq.cons ?_; conv => whnf) | (refine Dr.cons ?_; conv => whnf) | (refine Sq.nil ?_; conv => whnf) | (refine Dr.nil ?_; refine drawIf (by kernel_rfl) ?_; conv => whnf) | refine Vc.seq ?_ | (refine Vc.region rfl ?_; conv => whnf) | (refine Vc.draw rfl (by kernel_rfl) ?_; conv => whnf) | (refine Vc.cond ?_; conv => whnf) | refine Vc.block ?_ | (refine Vc.ret ?_; conv => whnf) | (refine Vc.skip ?_; conv => whnf) | (refine Vc.exit ?_; conv => whnf) | (refine mkSl (by omega) (by omega) ?_; conv => whnf) | (refine ifB_i (fun _ => ?_) (fun _ => ?_) <;> conv => whnf) | (refine ⟨_, spec_planOk p, ?_⟩; conv => whnf) | (refine ⟨_, spec_log p hc l, ?_⟩; conv => whnf)
    all_goals first
      | exact ⟨rfl, rfl⟩
      | (exfalso; simp_all; done)
  · repeat' first | (refine Sq.cons ?_; conv => whnf) | (refine Dr.cons ?_; conv => whnf) | (refine Sq.nil ?_; conv => whnf) | (refine Dr.nil ?_; refine drawIf (by kernel_rfl) ?_; conv => whnf) | refine Vc.seq ?_ | (refine Vc.region rfl ?_; conv => whnf) | (refine Vc.draw rfl (by kernel_rfl) ?_; conv => whnf) | (refine Vc.cond ?_; conv => whnf) | refine Vc.block ?_ | (refine Vc.ret ?_; conv => whnf) | (refine Vc.skip ?_; conv => whnf) | (refine Vc.exit ?_; conv => whnf) | (refine mkSl (by omega) (by omega) ?_; conv => whnf) | (refine ifB_i (fun _ => ?_) (fun _ => ?_) <;> conv => whnf) | (refine ⟨_, spec_planOk p, ?_⟩; conv => whnf)
    all_goals first
      | exact ⟨rfl, rfl⟩
      | (exfalso; simp_all; done)
end Cc
end
section
namespace Cc
open Go Go.AM
set_option maxRecDepth 100000
set_option maxHeartbeats 4000000
abbrev fBy (bs : List UInt8) : AV := .fr [] 5 (bytesRows bs)
abbrev aRd (bs : List UInt8) (a : Int) : List AV := [fBy bs, eI a]
theorem ixB {L : List UInt8} {i : Int} {k : List AV → Prop} (h0 : 0 ≤ i) (h : i < L.length) (hk : ∀ c : Int, 0 ≤ c ∧ c ≤ 255 → k [.prim (.int .u8 c)]) : 0 ≤ i ∧ ∃ row, (bytesRows L)[i.toNat]? = some row ∧ k row := by
  refine ⟨h0, [.prim (.int .u8 (L[i.toNat]'(by omega)).toNat)], ?_, hk _ ⟨by omega, ?_⟩⟩
  · rw [bytesRows, List.getElem?_map, List.getElem?_eq_getElem (by omega)]; rfl
  · have := (L[i.toNat]'(by omega)).toNat_lt; omega
theorem xor64 {a b : Int} {k : Int → Prop} (ha : 0 ≤ a ∧ a < 4611686018427387904) (hb : 0 ≤ b ∧ b < 4611686018427387904) (hk : ∀ c : Int, 0 ≤ c ∧ c < 4611686018427387904 → k c) : ∃ c, IntKind.i64.wrap (BitVec.ofInt IntKind.i64.bits a ^^^ BitVec.ofInt IntKind.i64.bits b).toNat = c ∧ k c := by
  have hx : (BitVec.ofInt IntKind.i64.bits a ^^^ BitVec.ofInt IntKind.i64.bits b).toNat = a.toNat ^^^ b.toNat := by
    show (BitVec.ofInt 64 a ^^^ BitVec.ofInt 64 b).toNat = _
    rw [BitVec.toNat_xor, BitVec.toNat_ofInt, BitVec.toNat_ofInt]
    congr 1 <;> omega
  have hlt : a.toNat ^^^ b.toNat < 2 ^ 62 := Nat.xor_lt_two_pow (by omega) (by omega)
  refine ⟨_, rfl, ?_⟩
  rw [hx, wrap64 (by omega) (by omega)]
  exact hk _ ⟨by omega, by omega⟩
theorem draw_pick (bs : List UInt8) (a k : Int) (ha : 0 ≤ a ∧ a ≤ 1000000000000) (hk : 1 ≤ k ∧ k ≤ 1000000000) (hbs : bs.length ≤ 2000) :
    ∃ os res, (∃ n, (0 ≤ n ∧ n < k) ∧ res = I n ∧ os = aRd bs (a + 1)) ∧ Sem P 86 [(.io 0 0, .agg (aRd bs a)), (.pure, I k)] [.agg os] res := by
  have key : ∃ res outs, (∃ n, (0 ≤ n ∧ n < k) ∧ res = I n ∧ outs = [.agg (aRd bs (a + 1))]) ∧ Sem P 86 [(.io 0 0, .agg (aRd bs a)), (.pure, I k)] outs res := by
    refine fn_someR (E := E0) E0_tab E0_ord (fn := Go.Proofs.Tryz.f86) (by kernel_rfl) (by kernel_rfl) ?_
    have lb : (bytesRows bs).length = bs.length := List.length_map ..
    conv => whnf
    repeat' first | (refine Sq.cons ?_; conv => whnf) | (refine Dr.cons ?_; conv => whnf) | (refine Sq.nil ?_; conv => whnf) | (refine Dr.nil ?_; refine drawIf (by kernel_rfl) ?_; conv => whnf) | refine Vc.seq ?_ | (refine Vc.region rfl ?_; conv => whnf) | (refine Vc.draw rfl (by kernel_rfl) ?_; conv => whnf) | (refine Vc.cond ?_; conv => whnf) | refine Vc.block ?_ | (refine Vc.ret ?_; conv => whnf) | (refine Vc.skip ?_; conv => whnf) | (refine Vc.exit ?_; conv => whnf) | (refine mkSl (by omega) (by omega) ?_; conv => whnf) | (refine ifB_i (fun _ => ?_) (fun _ => ?_) <;> conv => whnf) | (refine w64 (by omega) (by omega) ?_; conv => whnf)
    · exact ⟨0, ⟨by omega, by omega⟩, rfl, rfl⟩
    · exact ⟨0, ⟨by omega, by omega⟩, rfl, rfl⟩
    · rename_i g1 g2 g3
      simp only [decide_eq_true_eq, decide_eq_false_iff_not, beq_eq_false_iff_ne] at g1 g2 g3
      refine ixB (by omega) (by omega) fun c hc => ?_
      conv => whnf
      repeat' first | (refine Sq.cons ?_; conv => whnf) | (refine Dr.cons ?_; conv => whnf) | (refine Sq.nil ?_; conv => whnf) | (refine Dr.nil ?_; refine drawIf (by kernel_rfl) ?_; conv => whnf) | refine Vc.seq ?_ | (refine Vc.region rfl ?_; conv => whnf) | (refine Vc.draw rfl (by kernel_rfl) ?_; conv => whnf) | (refine Vc.cond ?_; conv => whnf) | refine Vc.block ?_ | (refine Vc.ret ?_; conv => whnf) | (refine Vc.skip ?_; conv => whnf) | (refine Vc.exit ?_; conv => whnf) | (refine mkSl (by omega) (by omega) ?_; conv => whnf) | (refine ifB_i (fun _ => ?_) (fun _ => ?_) <;> conv => whnf) | (refine w64 (by omega) (by omega) ?_; conv => whnf) | (refine r64 (by omega) (by omega) ?_; conv => whnf)
      have := Int.emod_nonneg c (b := k) (by omega)
      have := Int.emod_lt_of_pos c (b := k) (by omega)
      exact ⟨c % k, ⟨by omega, by omega⟩, rfl, rfl⟩
    · rename_i g1 g2 g3
      simp only [decide_eq_true_eq, decide_eq_false_iff_not, beq_eq_false_iff_ne] at g1 g2 g3
      have hl : (0 : Int) < (bytesRows bs).length := by omega
      have e1 := Int.emod_nonneg (a + 1 - 1) (b := ((bytesRows bs).length : Int)) (by omega)
      have e2 := Int.emod_lt_of_pos (a + 1 - 1) (b := ((bytesRows bs).length : Int)) (by omega)
      refine r64 (by omega) (by omega) ?_
      generalize (a + 1 - 1) % ((bytesRows bs).length : Int) = i at e1 e2
      conv => whnf
      repeat' first | (refine Sq.cons ?_; conv => whnf) | (refine Dr.cons ?_; conv => whnf) | (refine Sq.nil ?_; conv => whnf) | (refine Dr.nil ?_; refine drawIf (by kernel_rfl) ?_; conv => whnf) | refine Vc.seq ?_ | (refine Vc.region rfl ?_; conv => whnf) | (refine Vc.draw rfl (by kernel_rfl) ?_; conv => whnf) | (refine Vc.cond ?_; conv => whnf) | refine Vc.block ?_ | (refine Vc.ret ?_; conv => whnf) | (refine Vc.skip ?_; conv => whnf) | (refine Vc.exit ?_; conv => whnf) | (refine mkSl (by omega) (by omega) ?_; conv => whnf) | (refine ifB_i (fun _ => ?_) (fun _ => ?_) <;> conv => whnf) | (refine w64 (by omega) (by omega) ?_; conv => whnf)
      refine ixB (by omega) (by omega) fun c hc => ?_
      conv => whnf
      repeat' first | (refine Sq.cons ?_; conv => whnf) | (refine Dr.cons ?_; conv => whnf) | (refine Sq.nil ?_; conv => whnf) | (refine Dr.nil ?_; refine drawIf (by kernel_rfl) ?_; conv => whnf) | refine Vc.seq ?_ | (refine Vc.region rfl ?_; conv => whnf) | (refine Vc.draw rfl (by kernel_rfl) ?_; conv => whnf) | (refine Vc.cond ?_; conv => whnf) | refine Vc.block ?_ | (refine Vc.ret ?_; conv => whnf) | (refine Vc.skip ?_; conv => whnf) | (refine Vc.exit ?_; conv => whnf) | (refine mkSl (by omega) (by omega) ?_; conv => whnf) | (refine ifB_i (fun _ => ?_) (fun _ => ?_) <;> conv => whnf) | (refine w64 (by omega) (by omega) ?_; conv => whnf)
      have e3 := Int.emod_nonneg ((a + 1 - 1) * 7 + 3) (b := ((bytesRows bs).length : Int)) (by omega)
      have e4 := Int.emod_lt_of_pos ((a + 1 - 1) * 7 + 3) (b := ((bytesRows bs).length : Int)) (by omega)
      refine r64 (by omega) (by omega) ?_
      generalize ((a + 1 - 1) * 7 + 3) % ((bytesRows bs).length : Int) = i' at e3 e4
      conv => whnf
      repeat' first | (refine Sq.cons ?_; conv => whnf) | (refine Dr.cons ?_; conv => whnf) | (refine Sq.nil ?_; conv => whnf) | (refine Dr.nil ?_; refine drawIf (by kernel_rfl) ?_; conv => whnf) | refine Vc.seq ?_ | (refine Vc.region rfl ?_; conv => whnf) | (refine Vc.draw rfl (by kernel_rfl) ?_; conv => whnf) | (refine Vc.cond ?_; conv => whnf) | refine Vc.block ?_ | (refine Vc.ret ?_; conv => whnf) | (refine Vc.skip ?_; conv => whnf) | (refine Vc.exit ?_; conv => whnf) | (refine mkSl (by omega) (by omega) ?_; conv => whnf) | (refine ifB_i (fun _ => ?_) (fun _ => ?_) <;> conv => whnf) | (refine w64 (by omega) (by omega) ?_; conv => whnf)
      refine ixB (by omega) (by omega) fun c' hc' => ?_
      conv => whnf
      repeat' first | (refine Sq.cons ?_; conv => whnf) | (refine Dr.cons ?_; conv => whnf) | (refine Sq.nil ?_; conv => whnf) | (refine Dr.nil ?_; refine drawIf (by kernel_rfl) ?_; conv => whnf) | refine Vc.seq ?_ | (refine Vc.region rfl ?_; conv => whnf) | (refine Vc.draw rfl (by kernel_rfl) ?_; conv => whnf) | (refine Vc.cond ?_; conv => whnf) | refine Vc.block ?_ | (refine Vc.ret ?_; conv => whnf) | (refine Vc.skip ?_; conv => whnf) | (refine Vc.exit ?_; conv => whnf) | (refine mkSl (by omega) (by omega) ?_; conv => whnf) | (refine ifB_i (fun _ => ?_) (fun _ => ?_) <;> conv => whnf) | (refine w64 (by omega) (by omega) ?_; conv => whnf)
      have e5 := Int.ediv_nonneg (a := a + 1 - 1) (b := ((bytesRows bs).length : Int)) (by omega) (by omega)
      have e6 := Int.ediv_le_self (a := a + 1 - 1) ((bytesRows bs).length : Int) (by omega)
      refine q64 (by omega) (by omega) (by omega) ?_
      generalize (a + 1 - 1) / ((bytesRows bs).length : Int) = q at e5 e6
      conv => whnf
      repeat' first | (refine Sq.cons ?_; conv => whnf) | (refine Dr.cons ?_; conv => whnf) | (refine Sq.nil ?_; conv => whnf) | (refine Dr.nil ?_; refine drawIf (by kernel_rfl) ?_; conv => whnf) | refine Vc.seq ?_ | (refine Vc.region rfl ?_; conv => whnf) | (refine Vc.draw rfl (by kernel_rfl) ?_; conv => whnf) | (refine Vc.cond ?_; conv => whnf) | refine Vc.block ?_ | (refine Vc.ret ?_; conv => whnf) | (refine Vc.skip ?_; conv => whnf) | (refine Vc.exit ?_; conv => whnf) | (refine mkSl (by omega) (by omega) ?_; conv => whnf) | (refine ifB_i (fun _ => ?_) (fun _ => ?_) <;> conv => whnf) | (refine w64 (by omega) (by omega) ?_; conv => whnf)
      have hs : 0 ≤ c * 131 + c' * 1117 + (a + 1 - 1) * 29 + q * 53 ∧ c * 131 + c' * 1117 + (a + 1 - 1) * 29 + q * 53 < 4611686018427387904 := by omega
      generalize c * 131 + c' * 1117 + (a + 1 - 1) * 29 + q * 53 = s at hs
      have e7 := Int.ediv_nonneg (a := s) (b := 64) (by omega) (by omega)
      have e8 := Int.ediv_le_self (a := s) 64 (by omega)
      refine q64 (by omega) (by omega) (by omega) ?_
      generalize s / 64 = s' at e7 e8
      conv => whnf
      repeat' first | (refine Sq.cons ?_; conv => whnf) | (refine Dr.cons ?_; conv => whnf) | (refine Sq.nil ?_; conv => whnf) | (refine Dr.nil ?_; refine drawIf (by kernel_rfl) ?_; conv => whnf) | refine Vc.seq ?_ | (refine Vc.region rfl ?_; conv => whnf) | (refine Vc.draw rfl (by kernel_rfl) ?_; conv => whnf) | (refine Vc.cond ?_; conv => whnf) | refine Vc.block ?_ | (refine Vc.ret ?_; conv => whnf) | (refine Vc.skip ?_; conv => whnf) | (refine Vc.exit ?_; conv => whnf) | (refine mkSl (by omega) (by omega) ?_; conv => whnf) | (refine ifB_i (fun _ => ?_) (fun _ => ?_) <;> conv => whnf)
      refine xor64 hs (by omega) fun d hd => ?_
      conv => whnf
      repeat' first | (refine Sq.cons ?_; conv => whnf) | (refine Dr.cons ?_; conv => whnf) | (refine Sq.nil ?_; conv => whnf) | (refine Dr.nil ?_; refine drawIf (by kernel_rfl) ?_; conv => whnf) | refine Vc.seq ?_ | (refine Vc.region rfl ?_; conv => whnf) | (refine Vc.draw rfl (by kernel_rfl) ?_; conv => whnf) | (refine Vc.cond ?_; conv => whnf) | refine Vc.block ?_ | (refine Vc.ret ?_; conv => whnf) | (refine Vc.skip ?_; conv => whnf) | (refine Vc.exit ?_; conv => whnf) | (refine mkSl (by omega) (by omega) ?_; conv => whnf) | (refine ifB_i (fun _ => ?_) (fun _ => ?_) <;> conv => whnf) | (refine r64 (by omega) (by omega) ?_; conv => whnf)
      have := Int.emod_nonneg d (b := k) (by omega)
      have := Int.emod_lt_of_pos d (b := k) (by omega)
      exact ⟨d % k, ⟨by omega, by omega⟩, rfl, rfl⟩
  obtain ⟨r, o, ⟨n, h1, h2, rfl⟩, h3⟩ := key
  exact ⟨_, r, ⟨n, h1, h2, rfl⟩, h3⟩
end Cc
end
section
namespace Cc
open Go Go.AM
set_option maxRecDepth 100000
set_option maxHeartbeats 4000000
theorem rwL (L : List Int) {n : Int} {rows : List (List AV)} {k : List AV → Prop} (hr : rows = ints L) (h0 : 0 ≤ n) (h : n < L.length) (hk : ∀ c ∈ L, k (rI c)) : ∃ row, rows[n.toNat]? = some row ∧ k row := by
  subst hr
  refine ⟨rI (L[n.toNat]'(by omega)), by rw [List.getElem?_map, List.getElem?_eq_getElem (by omega)]; rfl, hk _ (List.getElem_mem _)⟩
def coef (l : List Int) (n : Nat) : Prop := l.length = n ∧ ∀ x ∈ l, -2 ≤ x ∧ x ≤ 2
theorem coef.set {l : List Int} {n i : Nat} {c : Int} (h : coef l n) (hc : -2 ≤ c ∧ c ≤ 2) : coef (l.set i c) n := by
  refine ⟨by rw [List.length_set]; exact h.1, fun x hx => ?_⟩
  rcases List.mem_or_eq_of_mem_set hx with h' | rfl
  · exact h.2 x h'
  · exact hc
theorem small_of {l m : List Int} {k : Int} (hl : coef l 3) (hm : coef m 2) (hk : -20 ≤ k ∧ k ≤ 20) : (⟨l, m, k⟩ : Form).small = true := by
  simp only [Form.small, Bool.and_eq_true]
  exact ⟨⟨within_iff.2 hl, within_iff.2 hm⟩, inB_iff.2 hk⟩
theorem draw_small (bs : List UInt8) (a : Int) (ha : 0 ≤ a ∧ a ≤ 100000000000) (hbs : bs.length ≤ 2000) :
    ∃ os res, (∃ f a', (a ≤ a' ∧ a' ≤ a + 6) ∧ f.small = true ∧ res = .agg (aF f) ∧ os = aRd bs a') ∧ Sem P 319 [(.io 0 0, .agg (aRd bs a))] [.agg os] res := by
  have key : ∃ res outs, (∃ f a', (a ≤ a' ∧ a' ≤ a + 6) ∧ f.small = true ∧ res = .agg (aF f) ∧ outs = [.agg (aRd bs a')]) ∧ Sem P 319 [(.io 0 0, .agg (aRd bs a))] outs res := by
    refine fn_someR (E := { E0 with keep := [2000] }) E0_tab E0_ord (fn := Go.Proofs.Tryz.f319) (by kernel_rfl) (by kernel_rfl) ?_
    conv => whnf
    repeat' first | (refine Sq.cons ?_; conv => whnf) | (refine Dr.cons ?_; conv => whnf) | (refine Sq.nil ?_; conv => whnf) | (refine Dr.nil ?_; refine drawIf (by kernel_rfl) ?_; conv => whnf) | refine Vc.seq ?_ | (refine Vc.region rfl ?_; conv => whnf) | (refine Vc.draw rfl (by kernel_rfl) ?_; conv => whnf) | (refine Vc.cond ?_; conv => whnf) | refine Vc.block ?_ | (refine Vc.ret ?_; conv => whnf) | (refine Vc.skip ?_; conv => whnf) | (refine Vc.exit ?_; conv => whnf) | (refine mkSl (by omega) (by omega) ?_; conv => whnf) | (refine ifB_i (fun _ => ?_) (fun _ => ?_) <;> conv => whnf) | (refine ⟨_, spec_zero, ?_⟩; conv => whnf)
    refine Vc.loop3 (fun (i : Nat) (l : List Int) (b : Int) => i ≤ 3 ∧ coef l 3 ∧ a ≤ b ∧ b ≤ a + i) (fun i l b => updL [0, 2, 3, 5, 20, 21, 22, 23, 24, 25, 26, 27, 28, 29, 30, 31, 32, 33, 34, 35, 36, 37, 38, 39] [(4, I i)] [(128000, .arr 3 (ints l) false), (63, .box (aRd bs b))]) (fun i _ _ => 3 - i) 0 [0, 0, 0] a ⟨by omega, ⟨rfl, by simp⟩, by omega, by omega⟩ ?_ (fun i l b hi => ?_)
    · repeat' (first | exact True.intro | ((conv => whnf); first | exact True.intro | refine ⟨by rfl, ?_⟩ | refine ⟨?_, ?_⟩))
    · obtain ⟨hi, hl, h1, h2⟩ := hi
      have hl1 := hl.1
      conv => whnf
      (repeat' first | (refine Sq.cons ?_; conv => whnf) | (refine Dr.cons ?_; conv => whnf) | (refine Sq.nil ?_; conv => whnf) | (refine Dr.nil ?_; refine drawIf (by kernel_rfl) ?_; conv => whnf) | refine Vc.seq ?_ | (refine Vc.region rfl ?_; conv => whnf) | (refine Vc.draw rfl (by kernel_rfl) ?_; conv => whnf) | (refine Vc.cond ?_; conv => whnf) | refine Vc.block ?_ | (refine Vc.ret ?_; conv => whnf) | (refine Vc.skip ?_; conv => whnf) | (refine Vc.exit ?_; conv => whnf) | (refine mkSl (by omega) (by omega) ?_; conv => whnf))
      refine ifB_d (fun g => ?_) (fun g => ?_)
      all_goals conv => whnf
      · repeat' first | (refine Sq.cons ?_; conv => whnf) | (refine Dr.cons ?_; conv => whnf) | (refine Sq.nil ?_; conv => whnf) | (refine Dr.nil ?_; refine drawIf (by kernel_rfl) ?_; conv => whnf) | refine Vc.seq ?_ | (refine Vc.region rfl ?_; conv => whnf) | (refine Vc.draw rfl (by kernel_rfl) ?_; conv => whnf) | (refine Vc.cond ?_; conv => whnf) | refine Vc.block ?_ | (refine Vc.ret ?_; conv => whnf) | (refine Vc.skip ?_; conv => whnf) | (refine Vc.exit ?_; conv => whnf) | (refine mkSl (by omega) (by omega) ?_; conv => whnf) | (refine ifB_i (fun _ => ?_) (fun _ => ?_) <;> conv => whnf) | (refine callIo (draw_pick bs _ _ (by omega) (by omega) hbs) ?_; rintro _ _ ⟨n, hn, rfl, rfl⟩; conv => whnf)
        refine ioN hn.1 (by simp; omega) ?_
        conv => whnf
        repeat' first | (refine Sq.cons ?_; conv => whnf) | (refine Dr.cons ?_; conv => whnf) | (refine Sq.nil ?_; conv => whnf) | (refine Dr.nil ?_; refine drawIf (by kernel_rfl) ?_; conv => whnf) | refine Vc.seq ?_ | (refine Vc.region rfl ?_; conv => whnf) | (refine Vc.draw rfl (by kernel_rfl) ?_; conv => whnf) | (refine Vc.cond ?_; conv => whnf) | refine Vc.block ?_ | (refine Vc.ret ?_; conv => whnf) | (refine Vc.skip ?_; conv => whnf) | (refine Vc.exit ?_; conv => whnf) | (refine mkSl (by omega) (by omega) ?_; conv => whnf) | (refine ifB_i (fun _ => ?_) (fun _ => ?_) <;> conv => whnf)
        refine rwL [0, 0, 0, 1, -1, 2] rfl hn.1 (by simp; omega) fun c hc => ?_
        have hc2 : -2 ≤ c ∧ c ≤ 2 := by simp at hc; omega
        conv => whnf
        repeat' first | (refine Sq.cons ?_; conv => whnf) | (refine Dr.cons ?_; conv => whnf) | (refine Sq.nil ?_; conv => whnf) | (refine Dr.nil ?_; refine drawIf (by kernel_rfl) ?_; conv => whnf) | refine Vc.seq ?_ | (refine Vc.region rfl ?_; conv => whnf) | (refine Vc.draw rfl (by kernel_rfl) ?_; conv => whnf) | (refine Vc.cond ?_; conv => whnf) | refine Vc.block ?_ | (refine Vc.ret ?_; conv => whnf) | (refine Vc.skip ?_; conv => whnf) | (refine Vc.exit ?_; conv => whnf) | (refine mkSl (by omega) (by omega) ?_; conv => whnf) | (refine ifB_i (fun _ => ?_) (fun _ => ?_) <;> conv => whnf) | (refine ioN (by omega) (by rw [ints_len]; omega) ?_; conv => whnf) | (refine rwN (enc := rI) 0 (by omega) ?_; conv => whnf) | (refine w64 (by omega) (by omega) ?_; conv => whnf)
        refine ⟨i + 1, l.set i c, b + 1, ⟨by omega, hl.set hc2, by omega, by omega⟩, by simp only; omega, ?_⟩
        repeat' (first | exact True.intro | ((conv => whnf); first | exact True.intro | refine ⟨by rfl, ?_⟩ | refine ⟨by first | omega | (show (_ : Int) = _; dsimp only; omega) | exact set_ints _ _ _, ?_⟩ | refine ⟨?_, ?_⟩))
      · (repeat' first | (refine Sq.cons ?_; conv => whnf) | (refine Dr.cons ?_; conv => whnf) | (refine Sq.nil ?_; conv => whnf) | (refine Dr.nil ?_; refine drawIf (by kernel_rfl) ?_; conv => whnf) | refine Vc.seq ?_ | (refine Vc.region rfl ?_; conv => whnf) | (refine Vc.draw rfl (by kernel_rfl) ?_; conv => whnf) | (refine Vc.cond ?_; conv => whnf) | refine Vc.block ?_ | (refine Vc.ret ?_; conv => whnf) | (refine Vc.skip ?_; conv => whnf) | (refine Vc.exit ?_; conv => whnf) | (refine mkSl (by omega) (by omega) ?_; conv => whnf))
        have e : i = 3 := by omega
        subst e
        refine Vc.loop3 (fun (j : Nat) (m : List Int) (b' : Int) => j ≤ 2 ∧ coef m 2 ∧ a ≤ b' ∧ b' ≤ a + 3 + j) (fun j m b' => updL [0, 2, 3, 33, 34, 35, 36, 37, 38, 39] [(5, I j)] [(128001, .arr 3 (ints m) false), (63, .box (aRd bs b'))]) (fun j _ _ => 2 - j) 0 [0, 0] b ⟨by omega, ⟨rfl, by simp⟩, by omega, by omega⟩ ?_ (fun j m b' hj => ?_)
        · repeat' (first | exact True.intro | ((conv => whnf); first | exact True.intro | refine ⟨by rfl, ?_⟩ | refine ⟨?_, ?_⟩))
        · obtain ⟨hj, hm, k1, k2⟩ := hj
          have hm1 := hm.1
          conv => whnf
          (repeat' first | (refine Sq.cons ?_; conv => whnf) | (refine Dr.cons ?_; conv => whnf) | (refine Sq.nil ?_; conv => whnf) | (refine Dr.nil ?_; refine drawIf (by kernel_rfl) ?_; conv => whnf) | refine Vc.seq ?_ | (refine Vc.region rfl ?_; conv => whnf) | (refine Vc.draw rfl (by kernel_rfl) ?_; conv => whnf) | (refine Vc.cond ?_; conv => whnf) | refine Vc.block ?_ | (refine Vc.ret ?_; conv => whnf) | (refine Vc.skip ?_; conv => whnf) | (refine Vc.exit ?_; conv => whnf) | (refine mkSl (by omega) (by omega) ?_; conv => whnf))
          refine ifB_d (fun g => ?_) (fun g => ?_)
          all_goals conv => whnf
          · repeat' first | (refine Sq.cons ?_; conv => whnf) | (refine Dr.cons ?_; conv => whnf) | (refine Sq.nil ?_; conv => whnf) | (refine Dr.nil ?_; refine drawIf (by kernel_rfl) ?_; conv => whnf) | refine Vc.seq ?_ | (refine Vc.region rfl ?_; conv => whnf) | (refine Vc.draw rfl (by kernel_rfl) ?_; conv => whnf) | (refine Vc.cond ?_; conv => whnf) | refine Vc.block ?_ | (refine Vc.ret ?_; conv => whnf) | (refine Vc.skip ?_; conv => whnf) | (refine Vc.exit ?_; conv => whnf) | (refine mkSl (by omega) (by omega) ?_; conv => whnf) | (refine ifB_i (fun _ => ?_) (fun _ => ?_) <;> conv => whnf) | (refine callIo (draw_pick bs _ _ (by omega) (by omega) hbs) ?_; rintro _ _ ⟨n, hn, rfl, rfl⟩; conv => whnf)
            refine ioN hn.1 (by simp; omega) ?_
            conv => whnf
            repeat' first | (refine Sq.cons ?_; conv => whnf) | (refine Dr.cons ?_; conv => whnf) | (refine Sq.nil ?_; conv => whnf) | (refine Dr.nil ?_; refine drawIf (by kernel_rfl) ?_; conv => whnf) | refine Vc.seq ?_ | (refine Vc.region rfl ?_; conv => whnf) | (refine Vc.draw rfl (by kernel_rfl) ?_; conv => whnf) | (refine Vc.cond ?_; conv => whnf) | refine Vc.block ?_ | (refine Vc.ret ?_; conv => whnf) | (refine Vc.skip ?_; conv => whnf) | (refine Vc.exit ?_; conv => whnf) | (refine mkSl (by omega) (by omega) ?_; conv => whnf) | (refine ifB_i (fun _ => ?_) (fun _ => ?_) <;> conv => whnf)
            refine rwL [0, 0, 1, -1, 2] rfl hn.1 (by simp; omega) fun c hc => ?_
            have hc2 : -2 ≤ c ∧ c ≤ 2 := by simp at hc; omega
            conv => whnf
            repeat' first | (refine Sq.cons ?_; conv => whnf) | (refine Dr.cons ?_; conv => whnf) | (refine Sq.nil ?_; conv => whnf) | (refine Dr.nil ?_; refine drawIf (by kernel_rfl) ?_; conv => whnf) | refine Vc.seq ?_ | (refine Vc.region rfl ?_; conv => whnf) | (refine Vc.draw rfl (by kernel_rfl) ?_; conv => whnf) | (refine Vc.cond ?_; conv => whnf) | refine Vc.block ?_ | (refine Vc.ret ?_; conv => whnf) | (refine Vc.skip ?_; conv => whnf) | (refine Vc.exit ?_; conv => whnf) | (refine mkSl (by omega) (by omega) ?_; conv => whnf) | (refine ifB_i (fun _ => ?_) (fun _ => ?_) <;> conv => whnf) | (refine ioN (by omega) (by rw [ints_len]; omega) ?_; conv => whnf) | (refine rwN (enc := rI) 0 (by omega) ?_; conv => whnf) | (refine w64 (by omega) (by omega) ?_; conv => whnf)
            refine ⟨j + 1, m.set j c, b' + 1, ⟨by omega, hm.set hc2, by omega, by omega⟩, by simp only; omega, ?_⟩
            repeat' (first | exact True.intro | ((conv => whnf); first | exact True.intro | refine ⟨by rfl, ?_⟩ | refine ⟨by first | omega | (show (_ : Int) = _; dsimp only; omega) | exact set_ints _ _ _, ?_⟩ | refine ⟨?_, ?_⟩))
          · repeat' first | (refine Sq.cons ?_; conv => whnf) | (refine Dr.cons ?_; conv => whnf) | (refine Sq.nil ?_; conv => whnf) | (refine Dr.nil ?_; refine drawIf (by kernel_rfl) ?_; conv => whnf) | refine Vc.seq ?_ | (refine Vc.region rfl ?_; conv => whnf) | (refine Vc.draw rfl (by kernel_rfl) ?_; conv => whnf) | (refine Vc.cond ?_; conv => whnf) | refine Vc.block ?_ | (refine Vc.ret ?_; conv => whnf) | (refine Vc.skip ?_; conv => whnf) | (refine Vc.exit ?_; conv => whnf) | (refine mkSl (by omega) (by omega) ?_; conv => whnf) | (refine ifB_i (fun _ => ?_) (fun _ => ?_) <;> conv => whnf) | (refine callIo (draw_pick bs _ _ (by omega) (by omega) hbs) ?_; rintro _ _ ⟨n, hn, rfl, rfl⟩; conv => whnf)
            refine ioN hn.1 (by simp; omega) ?_
            conv => whnf
            repeat' first | (refine Sq.cons ?_; conv => whnf) | (refine Dr.cons ?_; conv => whnf) | (refine Sq.nil ?_; conv => whnf) | (refine Dr.nil ?_; refine drawIf (by kernel_rfl) ?_; conv => whnf) | refine Vc.seq ?_ | (refine Vc.region rfl ?_; conv => whnf) | (refine Vc.draw rfl (by kernel_rfl) ?_; conv => whnf) | (refine Vc.cond ?_; conv => whnf) | refine Vc.block ?_ | (refine Vc.ret ?_; conv => whnf) | (refine Vc.skip ?_; conv => whnf) | (refine Vc.exit ?_; conv => whnf) | (refine mkSl (by omega) (by omega) ?_; conv => whnf) | (refine ifB_i (fun _ => ?_) (fun _ => ?_) <;> conv => whnf)
            refine rwL [0, 0, 1, -1, 5, -5, 20, -20] rfl hn.1 (by simp; omega) fun c hc => ?_
            have hc2 : -20 ≤ c ∧ c ≤ 20 := by simp at hc; omega
            conv => whnf
            repeat' first | (refine Sq.cons ?_; conv => whnf) | (refine Dr.cons ?_; conv => whnf) | (refine Sq.nil ?_; conv => whnf) | (refine Dr.nil ?_; refine drawIf (by kernel_rfl) ?_; conv => whnf) | refine Vc.seq ?_ | (refine Vc.region rfl ?_; conv => whnf) | (refine Vc.draw rfl (by kernel_rfl) ?_; conv => whnf) | (refine Vc.cond ?_; conv => whnf) | refine Vc.block ?_ | (refine Vc.ret ?_; conv => whnf) | (refine Vc.skip ?_; conv => whnf) | (refine Vc.exit ?_; conv => whnf) | (refine mkSl (by omega) (by omega) ?_; conv => whnf) | (refine ifB_i (fun _ => ?_) (fun _ => ?_) <;> conv => whnf) | (refine ioN (by omega) (by rw [ints_len]; omega) ?_; conv => whnf) | (refine rwN (enc := rI) 0 (by omega) ?_; conv => whnf) | (refine w64 (by omega) (by omega) ?_; conv => whnf)
            exact ⟨⟨l, m, c⟩, b' + 1, ⟨by omega, by omega⟩, small_of hl hm hc2, rfl, rfl⟩
  obtain ⟨r, o, ⟨f, a', h1, h2, h3, rfl⟩, h4⟩ := key
  exact ⟨_, r, ⟨f, a', h1, h2, h3, rfl⟩, h4⟩
end Cc
end
section
namespace Cc
open Go Go.AM
set_option maxRecDepth 100000
set_option maxHeartbeats 4000000
theorem spec_num (a b k : Int) : Sem P 348 [(.pure, I a), (.pure, I b), (.pure, I k)] [] (.agg (aF ⟨[0, 0, 0], [a, b], k⟩)) := by
  refine fn_okR (E := { E0 with keep := [2000] }) E0_tab E0_ord (fn := Go.Proofs.Tryz.f348) (by kernel_rfl) (by kernel_rfl) (fun hb => ?_)
  conv => whnf
  repeat' first | (refine Sq.cons ?_; conv => whnf) | (refine Dr.cons ?_; conv => whnf) | (refine Sq.nil ?_; conv => whnf) | (refine Dr.nil ?_; refine drawIf (by kernel_rfl) ?_; conv => whnf) | refine Vc.seq ?_ | (refine Vc.region rfl ?_; conv => whnf) | (refine Vc.draw rfl (by kernel_rfl) ?_; conv => whnf) | (refine Vc.cond ?_; conv => whnf) | refine Vc.block ?_ | (refine Vc.ret ?_; conv => whnf) | (refine Vc.skip ?_; conv => whnf) | (refine Vc.exit ?_; conv => whnf) | (refine mkSl (by omega) (by omega) ?_; conv => whnf) | (refine ifB_i (fun _ => ?_) (fun _ => ?_) <;> conv => whnf) | (refine ⟨_, spec_zero, ?_⟩; conv => whnf) | (refine ioK (Nat.le_of_ble_eq_true rfl) ?_; conv => whnf) | (refine rwC rfl ?_; conv => whnf)
  all_goals first
    | exact ⟨rfl, rfl⟩
    | trace_state
theorem spec_with (f : Form) (v : Nat) (n : Int) (hv : v < f.C.length) : Sem P 347 [(.own, .agg (aF f)), (.pure, I v), (.pure, I n)] [] (.agg (aF { f with C := f.C.set v n })) := by
  refine fn_okR (E := E0) E0_tab E0_ord (fn := Go.Proofs.Tryz.f347) (by kernel_rfl) (by kernel_rfl) (fun hb => ?_)
  have la := ints_len f.C
  conv => whnf
  repeat' first | (refine Sq.cons ?_; conv => whnf) | (refine Dr.cons ?_; conv => whnf) | (refine Sq.nil ?_; conv => whnf) | (refine Dr.nil ?_; refine drawIf (by kernel_rfl) ?_; conv => whnf) | refine Vc.seq ?_ | (refine Vc.region rfl ?_; conv => whnf) | (refine Vc.draw rfl (by kernel_rfl) ?_; conv => whnf) | (refine Vc.cond ?_; conv => whnf) | refine Vc.block ?_ | (refine Vc.ret ?_; conv => whnf) | (refine Vc.skip ?_; conv => whnf) | (refine Vc.exit ?_; conv => whnf) | (refine mkSl (by omega) (by omega) ?_; conv => whnf) | (refine ifB_i (fun _ => ?_) (fun _ => ?_) <;> conv => whnf) | (refine ioN (by omega) (by omega) ?_; conv => whnf) | (refine rwN (enc := rI) 0 (by omega) ?_; conv => whnf)
  exact ⟨congrArg (fun x => TV.agg [.sl 3 x, sI f.D, eI f.K]) (set_ints _ _ _), rfl⟩
theorem ok_test {f : Form} {n : Int} (hf : f.small = true) (hn : 1 ≤ n ∧ n ≤ 6) : (⟨1, 0, n, f⟩ : Line).ok = true := by
  simp [Line.ok, hf, inB_iff, hn]
theorem ok_add {f : Form} {n : Int} (hf : f.small = true) (hn : 0 ≤ n ∧ n ≤ 2) : (⟨2, n, 0, f⟩ : Line).ok = true := by
  simp [Line.ok, hf, inB_iff, hn]
theorem ok_print {f : Form} (hf : f.small = true) : (⟨3, 0, 0, f⟩ : Line).ok = true := by
  simp [Line.ok, hf]
theorem small_flat {f : Form} (hf : f.small = true) : ({ f with C := [0, 0, 0] } : Form).small = true := by
  simp only [Form.small, Bool.and_eq_true] at hf ⊢
  exact ⟨⟨by decide, hf.1.2⟩, hf.2⟩
theorem draw_line (bs : List UInt8) (a : Int) (ha : 0 ≤ a ∧ a ≤ 10000000000) (hbs : bs.length ≤ 2000) :
    ∃ os res, (∃ l a', (a ≤ a' ∧ a' ≤ a + 10) ∧ l.ok = true ∧ res = .agg (aL l) ∧ os = aRd bs a') ∧ Sem P 349 [(.io 0 0, .agg (aRd bs a))] [.agg os] res := by
  have key : ∃ res outs, (∃ l a', (a ≤ a' ∧ a' ≤ a + 10) ∧ l.ok = true ∧ res = .agg (aL l) ∧ outs = [.agg (aRd bs a')]) ∧ Sem P 349 [(.io 0 0, .agg (aRd bs a))] outs res := by
    refine fn_someR (E := { E0 with keep := [5004, 9001, 14001] }) E0_tab E0_ord (fn := Go.Proofs.Tryz.f349) (by kernel_rfl) (by kernel_rfl) ?_
    conv => whnf
    repeat' first | (refine Sq.cons ?_; conv => whnf) | (refine Dr.cons ?_; conv => whnf) | (refine Sq.nil ?_; conv => whnf) | (refine Dr.nil ?_; refine drawIf (by kernel_rfl) ?_; conv => whnf) | refine Vc.seq ?_ | (refine Vc.region rfl ?_; conv => whnf) | (refine Vc.draw rfl (by kernel_rfl) ?_; conv => whnf) | (refine Vc.cond ?_; conv => whnf) | refine Vc.block ?_ | (refine Vc.ret ?_; conv => whnf) | (refine Vc.skip ?_; conv => whnf) | (refine Vc.exit ?_; conv => whnf) | (refine mkSl (by omega) (by omega) ?_; conv => whnf) | (refine ifB_i (fun _ => ?_) (fun _ => ?_) <;> conv => whnf) | (refine callIo (draw_pick bs _ _ (by omega) (by omega) hbs) ?_; rintro _ _ ⟨n, hn, rfl, rfl⟩; conv => whnf) | (refine callIo (draw_small bs _ (by omega) hbs) ?_; rintro _ _ ⟨f, b, hb, hf, rfl, rfl⟩; conv => whnf) | (refine w64 (by first | omega | (dsimp only; omega)) (by first | omega | (dsimp only; omega)) ?_; conv => whnf)
    all_goals first
      | (refine ⟨⟨1, 0, 1 + n, f⟩, _, ⟨?_, ?_⟩, ?_, rfl, rfl⟩
         · omega
         · omega
         · exact ok_test hf (by omega))
      | (refine ⟨⟨2, n, 0, f⟩, _, ⟨?_, ?_⟩, ?_, rfl, rfl⟩
         · omega
         · omega
         · exact ok_add hf (by omega))
      | (refine ⟨⟨2, n, 0, { f with C := [0, 0, 0] }⟩, _, ⟨?_, ?_⟩, ?_, rfl, rfl⟩
         · omega
         · omega
         · exact ok_add (small_flat hf) (by omega))
      | (refine ⟨⟨3, 0, 0, f⟩, _, ⟨?_, ?_⟩, ?_, rfl, rfl⟩
         · omega
         · omega
         · exact ok_print hf)
      | (refine ⟨⟨4, 0, 0, Form.nil⟩, _, ⟨?_, ?_⟩, ?_, rfl, rfl⟩
         · omega
         · omega
         · rfl)
  obtain ⟨r, o, ⟨f, a', h1, h2, h3, rfl⟩, h4⟩ := key
  exact ⟨_, r, ⟨f, a', h1, h2, h3, rfl⟩, h4⟩
end Cc
end
section
namespace Cc
open Go Go.AM
set_option maxRecDepth 100000
set_option maxHeartbeats 4000000
theorem draw_args (bs : List UInt8) (a k : Int) (ha : 0 ≤ a ∧ a ≤ 10000000000) (hk : 1 ≤ k ∧ k ≤ 1000000) (hbs : bs.length ≤ 2000) :
    ∃ os res, (∃ (l : List Int) (a' : Int), (a ≤ a' ∧ a' ≤ a + 6) ∧ l.length ≤ 3 ∧ res = AI l ∧ os = aRd bs a') ∧ Sem P 179 [(.io 0 0, .agg (aRd bs a)), (.pure, I k)] [.agg os] res := by
  have key : ∃ res outs, (∃ (l : List Int) (a' : Int), (a ≤ a' ∧ a' ≤ a + 6) ∧ l.length ≤ 3 ∧ res = AI l ∧ outs = [.agg (aRd bs a')]) ∧ Sem P 179 [(.io 0 0, .agg (aRd bs a)), (.pure, I k)] outs res := by
    refine fn_someR (E := { E0 with cut := [7001] }) E0_tab E0_ord (fn := Go.Proofs.Tryz.f179) (by kernel_rfl) (by kernel_rfl) ?_
    conv => whnf
    repeat' first | (refine Sq.cons ?_; conv => whnf) | (refine Dr.cons ?_; conv => whnf) | (refine Sq.nil ?_; conv => whnf) | (refine Dr.nil ?_; refine drawIf (by kernel_rfl) ?_; conv => whnf) | refine Vc.seq ?_ | (refine Vc.region rfl ?_; conv => whnf) | (refine Vc.draw rfl (by kernel_rfl) ?_; conv => whnf) | (refine Vc.cond ?_; conv => whnf) | refine Vc.block ?_ | (refine Vc.ret ?_; conv => whnf) | (refine Vc.skip ?_; conv => whnf) | (refine Vc.exit ?_; conv => whnf) | (refine mkSl (by omega) (by omega) ?_; conv => whnf) | (refine ifB_i (fun _ => ?_) (fun _ => ?_) <;> conv => whnf) | (refine callIo (draw_pick bs _ _ (by omega) (by omega) hbs) ?_; rintro _ _ ⟨n, hn, rfl, rfl⟩; conv => whnf) | (refine w64 (by first | omega | (dsimp only; omega)) (by first | omega | (dsimp only; omega)) ?_; conv => whnf) | (refine apN (by simp) ?_; conv => whnf)
    · refine ⟨by decide, by decide, by simp, ?_⟩
      conv => whnf
      refine ⟨rfl, ?_⟩
      conv => whnf
      repeat' first | (refine Sq.cons ?_; conv => whnf) | (refine Dr.cons ?_; conv => whnf) | (refine Sq.nil ?_; conv => whnf) | (refine Dr.nil ?_; refine drawIf (by kernel_rfl) ?_; conv => whnf) | refine Vc.seq ?_ | (refine Vc.region rfl ?_; conv => whnf) | (refine Vc.draw rfl (by kernel_rfl) ?_; conv => whnf) | (refine Vc.cond ?_; conv => whnf) | refine Vc.block ?_ | (refine Vc.ret ?_; conv => whnf) | (refine Vc.skip ?_; conv => whnf) | (refine Vc.exit ?_; conv => whnf) | (refine mkSl (by omega) (by omega) ?_; conv => whnf) | (refine ifB_i (fun _ => ?_) (fun _ => ?_) <;> conv => whnf)
      refine ⟨[_], _, ⟨?_, ?_⟩, ?_, rfl, rfl⟩
      all_goals first | omega | simp
    · refine ⟨[_, _, _], _, ⟨?_, ?_⟩, ?_, rfl, rfl⟩
      all_goals first | omega | simp
    · refine ioN hn.1 (by simp; omega) ?_
      conv => whnf
      repeat' first | (refine Sq.cons ?_; conv => whnf) | (refine Dr.cons ?_; conv => whnf) | (refine Sq.nil ?_; conv => whnf) | (refine Dr.nil ?_; refine drawIf (by kernel_rfl) ?_; conv => whnf) | refine Vc.seq ?_ | (refine Vc.region rfl ?_; conv => whnf) | (refine Vc.draw rfl (by kernel_rfl) ?_; conv => whnf) | (refine Vc.cond ?_; conv => whnf) | refine Vc.block ?_ | (refine Vc.ret ?_; conv => whnf) | (refine Vc.skip ?_; conv => whnf) | (refine Vc.exit ?_; conv => whnf) | (refine mkSl (by omega) (by omega) ?_; conv => whnf) | (refine ifB_i (fun _ => ?_) (fun _ => ?_) <;> conv => whnf)
      refine rwL [10, -10] rfl hn.1 (by simp; omega) fun c hc => ?_
      conv => whnf
      repeat' first | (refine Sq.cons ?_; conv => whnf) | (refine Dr.cons ?_; conv => whnf) | (refine Sq.nil ?_; conv => whnf) | (refine Dr.nil ?_; refine drawIf (by kernel_rfl) ?_; conv => whnf) | refine Vc.seq ?_ | (refine Vc.region rfl ?_; conv => whnf) | (refine Vc.draw rfl (by kernel_rfl) ?_; conv => whnf) | (refine Vc.cond ?_; conv => whnf) | refine Vc.block ?_ | (refine Vc.ret ?_; conv => whnf) | (refine Vc.skip ?_; conv => whnf) | (refine Vc.exit ?_; conv => whnf) | (refine mkSl (by omega) (by omega) ?_; conv => whnf) | (refine ifB_i (fun _ => ?_) (fun _ => ?_) <;> conv => whnf) | (refine ioN (by omega) (by simp; omega) ?_; conv => whnf) | (refine rwN (L := [_, _]) (enc := rI) 0 (by simp; omega) ?_; conv => whnf)
      refine ⟨[_, _].set _ c, _, ⟨?_, ?_⟩, ?_, congrArg (fun x => TV.one (.sl 3 x)) (set_ints [_, _] _ c), rfl⟩
      all_goals first | omega | simp
    · refine ⟨[_, _], _, ⟨?_, ?_⟩, ?_, rfl, rfl⟩
      all_goals first | omega | simp
  obtain ⟨r, o, ⟨f, a', h1, h2, h3, rfl⟩, h4⟩ := key
  exact ⟨_, r, ⟨f, a', h1, h2, h3, rfl⟩, h4⟩
end Cc
end
section
namespace Cc
open Go Go.AM
set_option maxRecDepth 100000
set_option maxHeartbeats 4000000
theorem draw_res (bs : List UInt8) (a k : Int) (ha : 0 ≤ a ∧ a ≤ 10000000000) (hk : 1 ≤ k ∧ k ≤ 1000000) (hbs : bs.length ≤ 2000) :
    ∃ os res, (∃ (r : Rslt) (a' : Int), (a ≤ a' ∧ a' ≤ a + 10) ∧ (res = .agg (aR r) ∨ res = .agg (eR r)) ∧ os = aRd bs a') ∧ Sem P 88 [(.io 0 0, .agg (aRd bs a)), (.pure, I k)] [.agg os] res := by
  have key : ∃ res outs, (∃ (r : Rslt) (a' : Int), (a ≤ a' ∧ a' ≤ a + 10) ∧ (res = .agg (aR r) ∨ res = .agg (eR r)) ∧ outs = [.agg (aRd bs a')]) ∧ Sem P 88 [(.io 0 0, .agg (aRd bs a)), (.pure, I k)] outs res := by
    refine fn_someR (E := { E0 with fz := [(15, [704320])] }) E0_tab E0_ord (fn := Go.Proofs.Tryz.f88) (by kernel_rfl) (by kernel_rfl) ?_
    conv => whnf
    repeat' first | (refine Sq.cons ?_; conv => whnf) | (refine Dr.cons ?_; conv => whnf) | (refine Sq.nil ?_; conv => whnf) | (refine Dr.nil ?_; refine drawIf (by kernel_rfl) ?_; conv => whnf) | refine Vc.seq ?_ | (refine Vc.region rfl ?_; conv => whnf) | (refine Vc.draw rfl (by kernel_rfl) ?_; conv => whnf) | (refine Vc.cond ?_; conv => whnf) | refine Vc.block ?_ | (refine Vc.ret ?_; conv => whnf) | (refine Vc.skip ?_; conv => whnf) | (refine Vc.exit ?_; conv => whnf) | (refine mkSl (by omega) (by omega) ?_; conv => whnf) | (refine ifB_i (fun _ => ?_) (fun _ => ?_) <;> conv => whnf) | (refine callIo (draw_pick bs _ _ (by omega) (by omega) hbs) ?_; rintro _ _ ⟨n, hn, rfl, rfl⟩; conv => whnf) | (refine w64 (by first | omega | (dsimp only; omega)) (by first | omega | (dsimp only; omega)) ?_; conv => whnf) | (refine apN (by simp) ?_; conv => whnf)
    · rename_i m hm h1
      refine Vc.loop3 (fun (i : Int) (l : List Int) (b : Int) => 0 ≤ i ∧ i ≤ 3 ∧ (l.length : Int) ≤ 3 - i ∧ a ≤ b ∧ b ≤ a + 2 + (3 - i)) (fun i l b => updL [0, 1, 4, 5, 30, 31, 32, 33, 34, 35, 36, 37, 38, 39, 40, 41, 42, 43, 44, 45, 46, 47, 48, 49, 50, 51, 52, 53, 54, 55, 56, 57, 58, 59, 60, 61, 62, 63] [(6, I i)] [(128256, .box [eI (1 + m), .ref 128322]), (128322, .arr 3 (ints l) false), (63, .box (aRd bs b))]) (fun i _ _ => i.toNat) n [] (a + 1 + 1) ⟨by omega, by omega, by simp; omega, by omega, by omega⟩ ?_ (fun i l b hi => ?_)
      · repeat' (first | exact True.intro | ((conv => whnf); first | exact True.intro | refine ⟨by rfl, ?_⟩ | refine ⟨by first | omega | (show (_ : Int) = _; dsimp only; omega), ?_⟩ | refine ⟨?_, ?_⟩))
      · obtain ⟨i0, i3, hl, b1, b2⟩ := hi
        have ll := ints_len l
        conv => whnf
        (repeat' first | (refine Sq.cons ?_; conv => whnf) | (refine Dr.cons ?_; conv => whnf) | (refine Sq.nil ?_; conv => whnf) | (refine Dr.nil ?_; refine drawIf (by kernel_rfl) ?_; conv => whnf) | refine Vc.seq ?_ | (refine Vc.region rfl ?_; conv => whnf) | (refine Vc.draw rfl (by kernel_rfl) ?_; conv => whnf) | (refine Vc.cond ?_; conv => whnf) | refine Vc.block ?_ | (refine Vc.ret ?_; conv => whnf) | (refine Vc.skip ?_; conv => whnf) | (refine Vc.exit ?_; conv => whnf) | (refine mkSl (by omega) (by omega) ?_; conv => whnf))
        refine ifB_d (fun g => ?_) (fun g => ?_)
        all_goals conv => whnf
        · repeat' first | (refine Sq.cons ?_; conv => whnf) | (refine Dr.cons ?_; conv => whnf) | (refine Sq.nil ?_; conv => whnf) | (refine Dr.nil ?_; refine drawIf (by kernel_rfl) ?_; conv => whnf) | refine Vc.seq ?_ | (refine Vc.region rfl ?_; conv => whnf) | (refine Vc.draw rfl (by kernel_rfl) ?_; conv => whnf) | (refine Vc.cond ?_; conv => whnf) | refine Vc.block ?_ | (refine Vc.ret ?_; conv => whnf) | (refine Vc.skip ?_; conv => whnf) | (refine Vc.exit ?_; conv => whnf) | (refine mkSl (by omega) (by omega) ?_; conv => whnf) | (refine ifB_i (fun _ => ?_) (fun _ => ?_) <;> conv => whnf) | (refine callIo (draw_pick bs _ _ (by omega) (by omega) hbs) ?_; rintro _ _ ⟨n, hn, rfl, rfl⟩; conv => whnf)
          refine ioN hn.1 (by simp; omega) ?_
          conv => whnf
          repeat' first | (refine Sq.cons ?_; conv => whnf) | (refine Dr.cons ?_; conv => whnf) | (refine Sq.nil ?_; conv => whnf) | (refine Dr.nil ?_; refine drawIf (by kernel_rfl) ?_; conv => whnf) | refine Vc.seq ?_ | (refine Vc.region rfl ?_; conv => whnf) | (refine Vc.draw rfl (by kernel_rfl) ?_; conv => whnf) | (refine Vc.cond ?_; conv => whnf) | refine Vc.block ?_ | (refine Vc.ret ?_; conv => whnf) | (refine Vc.skip ?_; conv => whnf) | (refine Vc.exit ?_; conv => whnf) | (refine mkSl (by omega) (by omega) ?_; conv => whnf) | (refine ifB_i (fun _ => ?_) (fun _ => ?_) <;> conv => whnf)
          refine rwL [0, 7, -7, 12345] rfl hn.1 (by simp; omega) fun c hc => ?_
          conv => whnf
          repeat' first | (refine Sq.cons ?_; conv => whnf) | (refine Dr.cons ?_; conv => whnf) | (refine Sq.nil ?_; conv => whnf) | (refine Dr.nil ?_; refine drawIf (by kernel_rfl) ?_; conv => whnf) | refine Vc.seq ?_ | (refine Vc.region rfl ?_; conv => whnf) | (refine Vc.draw rfl (by kernel_rfl) ?_; conv => whnf) | (refine Vc.cond ?_; conv => whnf) | refine Vc.block ?_ | (refine Vc.ret ?_; conv => whnf) | (refine Vc.skip ?_; conv => whnf) | (refine Vc.exit ?_; conv => whnf) | (refine mkSl (by omega) (by omega) ?_; conv => whnf) | (refine ifB_i (fun _ => ?_) (fun _ => ?_) <;> conv => whnf) | (refine apN (by simp; omega) ?_; conv => whnf) | (refine w64 (by omega) (by omega) ?_; conv => whnf)
          refine ⟨i - 1, l ++ [c], b + 1, ⟨by omega, by omega, by simp; omega, by omega, by omega⟩, by simp only; omega, ?_⟩
          repeat' (first | exact True.intro | ((conv => whnf); first | exact True.intro | refine ⟨by rfl, ?_⟩ | refine ⟨by first | omega | (show (_ : Int) = _; dsimp only; omega) | exact app_ints _ _, ?_⟩ | refine ⟨?_, ?_⟩))
        · repeat' first | (refine Sq.cons ?_; conv => whnf) | (refine Dr.cons ?_; conv => whnf) | (refine Sq.nil ?_; conv => whnf) | (refine Dr.nil ?_; refine drawIf (by kernel_rfl) ?_; conv => whnf) | refine Vc.seq ?_ | (refine Vc.region rfl ?_; conv => whnf) | (refine Vc.draw rfl (by kernel_rfl) ?_; conv => whnf) | (refine Vc.cond ?_; conv => whnf) | refine Vc.block ?_ | (refine Vc.ret ?_; conv => whnf) | (refine Vc.skip ?_; conv => whnf) | (refine Vc.exit ?_; conv => whnf) | (refine mkSl (by omega) (by omega) ?_; conv => whnf) | (refine ifB_i (fun _ => ?_) (fun _ => ?_) <;> conv => whnf) | (refine callIo (draw_pick bs _ _ (by omega) (by omega) hbs) ?_; rintro _ _ ⟨n, hn, rfl, rfl⟩; conv => whnf) | (refine w64 (by first | omega | (dsimp only; omega)) (by first | omega | (dsimp only; omega)) ?_; conv => whnf) | (refine apN (by simp; omega) ?_; conv => whnf)
          · exact ⟨⟨1 + m, l⟩, _, ⟨by omega, by omega⟩, .inl rfl, rfl⟩
          · refine ioN hn.1 (by simp; omega) ?_
            conv => whnf
            repeat' first | (refine Sq.cons ?_; conv => whnf) | (refine Dr.cons ?_; conv => whnf) | (refine Sq.nil ?_; conv => whnf) | (refine Dr.nil ?_; refine drawIf (by kernel_rfl) ?_; conv => whnf) | refine Vc.seq ?_ | (refine Vc.region rfl ?_; conv => whnf) | (refine Vc.draw rfl (by kernel_rfl) ?_; conv => whnf) | (refine Vc.cond ?_; conv => whnf) | refine Vc.block ?_ | (refine Vc.ret ?_; conv => whnf) | (refine Vc.skip ?_; conv => whnf) | (refine Vc.exit ?_; conv => whnf) | (refine mkSl (by omega) (by omega) ?_; conv => whnf) | (refine ifB_i (fun _ => ?_) (fun _ => ?_) <;> conv => whnf)
            refine rwL [0, 4, -1] rfl hn.1 (by simp; omega) fun c hc => ?_
            conv => whnf
            repeat' first | (refine Sq.cons ?_; conv => whnf) | (refine Dr.cons ?_; conv => whnf) | (refine Sq.nil ?_; conv => whnf) | (refine Dr.nil ?_; refine drawIf (by kernel_rfl) ?_; conv => whnf) | refine Vc.seq ?_ | (refine Vc.region rfl ?_; conv => whnf) | (refine Vc.draw rfl (by kernel_rfl) ?_; conv => whnf) | (refine Vc.cond ?_; conv => whnf) | refine Vc.block ?_ | (refine Vc.ret ?_; conv => whnf) | (refine Vc.skip ?_; conv => whnf) | (refine Vc.exit ?_; conv => whnf) | (refine mkSl (by omega) (by omega) ?_; conv => whnf) | (refine ifB_i (fun _ => ?_) (fun _ => ?_) <;> conv => whnf)
            exact ⟨⟨c, l⟩, _, ⟨by omega, by omega⟩, .inl rfl, rfl⟩
          · exact ⟨⟨1 + m, l ++ [1]⟩, _, ⟨by omega, by omega⟩, .inl (congrArg (fun x => TV.agg [eI (1 + m), .sl 3 x]) (app_ints l 1)), rfl⟩
          · refine ioN hn.1 (by simp; omega) ?_
            conv => whnf
            repeat' first | (refine Sq.cons ?_; conv => whnf) | (refine Dr.cons ?_; conv => whnf) | (refine Sq.nil ?_; conv => whnf) | (refine Dr.nil ?_; refine drawIf (by kernel_rfl) ?_; conv => whnf) | refine Vc.seq ?_ | (refine Vc.region rfl ?_; conv => whnf) | (refine Vc.draw rfl (by kernel_rfl) ?_; conv => whnf) | (refine Vc.cond ?_; conv => whnf) | refine Vc.block ?_ | (refine Vc.ret ?_; conv => whnf) | (refine Vc.skip ?_; conv => whnf) | (refine Vc.exit ?_; conv => whnf) | (refine mkSl (by omega) (by omega) ?_; conv => whnf) | (refine ifB_i (fun _ => ?_) (fun _ => ?_) <;> conv => whnf)
            have h5 : n = 0 ∨ n = 1 ∨ n = 2 ∨ n = 3 ∨ n = 4 := by omega
            rcases h5 with rfl | rfl | rfl | rfl | rfl
            all_goals
              refine rwC rfl ?_
              conv => whnf
              repeat' first | (refine Sq.cons ?_; conv => whnf) | (refine Dr.cons ?_; conv => whnf) | (refine Sq.nil ?_; conv => whnf) | (refine Dr.nil ?_; refine drawIf (by kernel_rfl) ?_; conv => whnf) | refine Vc.seq ?_ | (refine Vc.region rfl ?_; conv => whnf) | (refine Vc.draw rfl (by kernel_rfl) ?_; conv => whnf) | (refine Vc.cond ?_; conv => whnf) | refine Vc.block ?_ | (refine Vc.ret ?_; conv => whnf) | (refine Vc.skip ?_; conv => whnf) | (refine Vc.exit ?_; conv => whnf) | (refine mkSl (by omega) (by omega) ?_; conv => whnf) | (refine ifB_i (fun _ => ?_) (fun _ => ?_) <;> conv => whnf)
            · exact ⟨⟨1 + m, [1, 2, 3, 4, 5, 6, 7]⟩, _, ⟨by omega, by omega⟩, .inr rfl, rfl⟩
            all_goals exact ⟨⟨1 + m, [_]⟩, _, ⟨by omega, by omega⟩, .inr rfl, rfl⟩
    · exact ⟨⟨_, []⟩, _, ⟨by omega, by omega⟩, .inl rfl, rfl⟩
    · refine ioN hn.1 (by simp; omega) ?_
      conv => whnf
      repeat' first | (refine Sq.cons ?_; conv => whnf) | (refine Dr.cons ?_; conv => whnf) | (refine Sq.nil ?_; conv => whnf) | (refine Dr.nil ?_; refine drawIf (by kernel_rfl) ?_; conv => whnf) | refine Vc.seq ?_ | (refine Vc.region rfl ?_; conv => whnf) | (refine Vc.draw rfl (by kernel_rfl) ?_; conv => whnf) | (refine Vc.cond ?_; conv => whnf) | refine Vc.block ?_ | (refine Vc.ret ?_; conv => whnf) | (refine Vc.skip ?_; conv => whnf) | (refine Vc.exit ?_; conv => whnf) | (refine mkSl (by omega) (by omega) ?_; conv => whnf) | (refine ifB_i (fun _ => ?_) (fun _ => ?_) <;> conv => whnf)
      refine rwL [0, 4, -1] rfl hn.1 (by simp; omega) fun c hc => ?_
      conv => whnf
      repeat' first | (refine Sq.cons ?_; conv => whnf) | (refine Dr.cons ?_; conv => whnf) | (refine Sq.nil ?_; conv => whnf) | (refine Dr.nil ?_; refine drawIf (by kernel_rfl) ?_; conv => whnf) | refine Vc.seq ?_ | (refine Vc.region rfl ?_; conv => whnf) | (refine Vc.draw rfl (by kernel_rfl) ?_; conv => whnf) | (refine Vc.cond ?_; conv => whnf) | refine Vc.block ?_ | (refine Vc.ret ?_; conv => whnf) | (refine Vc.skip ?_; conv => whnf) | (refine Vc.exit ?_; conv => whnf) | (refine mkSl (by omega) (by omega) ?_; conv => whnf) | (refine ifB_i (fun _ => ?_) (fun _ => ?_) <;> conv => whnf)
      exact ⟨⟨c, []⟩, _, ⟨by omega, by omega⟩, .inl rfl, rfl⟩
    · exact ⟨⟨_, [1]⟩, _, ⟨by omega, by omega⟩, .inl rfl, rfl⟩
    · refine ioN hn.1 (by simp; omega) ?_
      conv => whnf
      repeat' first | (refine Sq.cons ?_; conv => whnf) | (refine Dr.cons ?_; conv => whnf) | (refine Sq.nil ?_; conv => whnf) | (refine Dr.nil ?_; refine drawIf (by kernel_rfl) ?_; conv => whnf) | refine Vc.seq ?_ | (refine Vc.region rfl ?_; conv => whnf) | (refine Vc.draw rfl (by kernel_rfl) ?_; conv => whnf) | (refine Vc.cond ?_; conv => whnf) | refine Vc.block ?_ | (refine Vc.ret ?_; conv => whnf) | (refine Vc.skip ?_; conv => whnf) | (refine Vc.exit ?_; conv => whnf) | (refine mkSl (by omega) (by omega) ?_; conv => whnf) | (refine ifB_i (fun _ => ?_) (fun _ => ?_) <;> conv => whnf)
      have h5 : n = 0 ∨ n = 1 ∨ n = 2 ∨ n = 3 ∨ n = 4 := by omega
      rcases h5 with rfl | rfl | rfl | rfl | rfl
      all_goals
        refine rwC rfl ?_
        conv => whnf
        repeat' first | (refine Sq.cons ?_; conv => whnf) | (refine Dr.cons ?_; conv => whnf) | (refine Sq.nil ?_; conv => whnf) | (refine Dr.nil ?_; refine drawIf (by kernel_rfl) ?_; conv => whnf) | refine Vc.seq ?_ | (refine Vc.region rfl ?_; conv => whnf) | (refine Vc.draw rfl (by kernel_rfl) ?_; conv => whnf) | (refine Vc.cond ?_; conv => whnf) | refine Vc.block ?_ | (refine Vc.ret ?_; conv => whnf) | (refine Vc.skip ?_; conv => whnf) | (refine Vc.exit ?_; conv => whnf) | (refine mkSl (by omega) (by omega) ?_; conv => whnf) | (refine ifB_i (fun _ => ?_) (fun _ => ?_) <;> conv => whnf)
      · exact ⟨⟨_, [1, 2, 3, 4, 5, 6, 7]⟩, _, ⟨by omega, by omega⟩, .inr rfl, rfl⟩
      all_goals exact ⟨⟨_, [_]⟩, _, ⟨by omega, by omega⟩, .inr rfl, rfl⟩
  obtain ⟨r, o, ⟨f, a', h1, h2, rfl⟩, h4⟩ := key
  exact ⟨_, r, ⟨f, a', h1, h2, rfl⟩, h4⟩
end Cc
end
section
namespace Cc
open Go Go.AM
set_option maxRecDepth 100000
set_option maxHeartbeats 4000000
def unI : List (List AV) → List Int
  | [.prim (.int .i64 n)] :: r => n :: unI r
  | _ => []
theorem rwI {rows : List (List AV)} {n : Int} {k : List AV → Prop} (hr : ints (unI rows) = rows) (h0 : 0 ≤ n) (h : n < rows.length) (hk : ∀ c ∈ unI rows, k (rI c)) : ∃ row, rows[n.toNat]? = some row ∧ k row := by
  rw [← hr] at h ⊢
  rw [ints_len] at h
  exact ⟨rI ((unI rows)[n.toNat]'(by omega)), by rw [List.getElem?_map, List.getElem?_eq_getElem (by omega)]; rfl, hk _ (List.getElem_mem _)⟩
theorem slN {l h n : Int} {k : Prop} (h0 : 0 ≤ l) (h1 : l ≤ h) (h2 : h ≤ n) (hk : k) : 0 ≤ l ∧ l ≤ h ∧ h ≤ n ∧ k := ⟨h0, h1, h2, hk⟩
theorem ctN {k : Prop} (hk : k) : (0 : Int) = 0 ∧ k := ⟨rfl, hk⟩
theorem small_len {f : Form} (h : f.small = true) : f.C.length = 3 ∧ f.D.length = 2 := (small_form h).1.1
theorem ints_take (l : List Int) (n : Nat) : (ints l).take n = ints (l.take n) := List.map_take.symm
theorem rwE {rows : List (List AV)} {l : List Int} {i : Nat} {k : List AV → Prop} (hr : rows = ints l) (h : i < l.length) (hk : k (rI (l.getD i 0))) : ∃ row, rows[i]? = some row ∧ k row := by
  subst hr; exact rwN (enc := rI) 0 h hk
theorem drForm {a m : Int} {bs : List UInt8} {res : TV} {os : List TV} {C D : List Int} {K a' : Int} (e : res = .agg [sI C, sI D, eI K]) (e2 : os = [.agg (aRd bs a')]) (hb : a ≤ a' ∧ a' ≤ a + m) : ∃ (f : Form) (a' : Int), (a ≤ a' ∧ a' ≤ a + m) ∧ res = .agg (aF f) ∧ os = [.agg (aRd bs a')] :=
  ⟨⟨C, D, K⟩, a', hb, e, e2⟩
theorem draw_form (bs : List UInt8) (a k : Int) (ha : 0 ≤ a ∧ a ≤ 10000000000) (hk : 1 ≤ k ∧ k ≤ 1000000) (hbs : bs.length ≤ 2000) :
    ∃ os res, (∃ (f : Form) (a' : Int), (a ≤ a' ∧ a' ≤ a + 20) ∧ res = .agg (aF f) ∧ os = aRd bs a') ∧ Sem P 318 [(.io 0 0, .agg (aRd bs a)), (.pure, I k)] [.agg os] res := by
  have key : ∃ res outs, (∃ (f : Form) (a' : Int), (a ≤ a' ∧ a' ≤ a + 20) ∧ res = .agg (aF f) ∧ outs = [.agg (aRd bs a')]) ∧ Sem P 318 [(.io 0 0, .agg (aRd bs a)), (.pure, I k)] outs res := by
    refine fn_someR (E := { E0 with keep := [2001], cut := [10002] }) E0_tab E0_ord (fn := Go.Proofs.Tryz.f318) (by kernel_rfl) (by kernel_rfl) ?_
    conv => whnf
    repeat' first | (refine Sq.cons ?_; conv => whnf) | (refine Dr.cons ?_; conv => whnf) | (refine Sq.nil ?_; conv => whnf) | (refine Dr.nil ?_; refine drawIf (by kernel_rfl) ?_; conv => whnf) | refine Vc.seq ?_ | (refine Vc.region rfl ?_; conv => whnf) | (refine Vc.draw rfl (by kernel_rfl) ?_; conv => whnf) | (refine Vc.cond ?_; conv => whnf) | refine Vc.block ?_ | (refine Vc.ret ?_; conv => whnf) | (refine Vc.skip ?_; conv => whnf) | (refine Vc.exit ?_; conv => whnf) | (refine mkSl (by omega) (by omega) ?_; conv => whnf) | (refine ifB_i (fun _ => ?_) (fun _ => ?_) <;> conv => whnf) | (refine callIo (draw_pick bs _ _ (by omega) (by omega) hbs) ?_; rintro _ _ ⟨n, hn, rfl, rfl⟩; conv => whnf) | (refine ioN (by first | omega | (dsimp only; omega) | (simp <;> omega) | (simp_all <;> omega)) (by first | omega | (dsimp only; omega) | (simp <;> omega) | (simp_all <;> omega)) ?_; conv => whnf) | (refine rwI rfl (by first | omega | (dsimp only; omega) | (simp <;> omega) | (simp_all <;> omega)) (by first | omega | (dsimp only; omega) | (simp <;> omega) | (simp_all <;> omega)) fun c hc => ?_; conv => whnf) | (refine rwN (enc := rI) 0 (by first | omega | (dsimp only; omega) | (simp <;> omega) | (simp_all <;> omega)) ?_; conv => whnf) | (refine w64 (by first | omega | (dsimp only; omega)) (by first | omega | (dsimp only; omega)) ?_; conv => whnf) | (refine apN (by simp; omega) ?_; conv => whnf) | (refine callIo (draw_small bs _ (by omega) hbs) ?_; rintro _ _ ⟨f, b, hb, hf, rfl, rfl⟩; have hl := small_len hf; have hl1 := hl.1; have hl2 := hl.2; conv => whnf) | (refine rwE (set_ints _ _ _) (by first | omega | (dsimp only; omega) | (simp <;> omega) | (simp_all <;> omega)) ?_; conv => whnf) | (refine slN (by decide) (by decide) (by first | omega | (dsimp only; omega) | (simp <;> omega) | (simp_all <;> omega)) ?_; conv => whnf) | (refine ctN ?_; conv => whnf)
    all_goals
      apply drForm
      · (try simp only [set_ints, app_ints, ints_take]); rfl
      · rfl
      · constructor <;> omega
  obtain ⟨r, o, ⟨f, a', h1, h2, rfl⟩, h4⟩ := key
  exact ⟨_, r, ⟨f, a', h1, h2, rfl⟩, h4⟩
end Cc
end
section
namespace Cc
open Go Go.AM
set_option maxRecDepth 100000
set_option maxHeartbeats 4000000
theorem apS {r : List (List AV)} {k : Prop} (h : allSh r) (hk : k) : allSh r ∧ k := ⟨h, hk⟩
theorem sh_lines (l : List Line) : allSh (l.map eL) := by
  intro row hr a ha
  obtain ⟨x, _, rfl⟩ := List.mem_map.1 hr
  simp only [eL, List.mem_cons, List.not_mem_nil, or_false] at ha
  rcases ha with rfl | rfl | rfl | rfl | rfl | rfl <;> first | exact .inl ⟨_, rfl⟩ | exact .inr ⟨_, _, rfl⟩
theorem app_lines (l : List Line) (x : Line) : l.map eL ++ [eL x] = (l ++ [x]).map eL := by simp
theorem spec_actOkA (out : List Line) (l : Line) : Sem P 189 [(.pure, .one (.sl 131 ([] ++ out.map eL ++ [eL l])))] [] (B (actOk (out ++ [l]))) := by
  have e : [] ++ out.map eL ++ [eL l] = (out ++ [l]).map eL := by simp
  rw [e]; exact spec_actOk _
theorem draw_act (bs : List UInt8) (a : Int) (ha : 0 ≤ a ∧ a ≤ 9000000000) (hbs : bs.length ≤ 2000) :
    ∃ os res, (∃ (act : List Line) (a' : Int), (a ≤ a' ∧ a' ≤ a + 60) ∧ actOk act = true ∧ res = .one (sLs act) ∧ os = aRd bs a') ∧ Sem P 314 [(.io 0 0, .agg (aRd bs a))] [.agg os] res := by
  have key : ∃ res outs, (∃ (act : List Line) (a' : Int), (a ≤ a' ∧ a' ≤ a + 60) ∧ actOk act = true ∧ res = .one (sLs act) ∧ outs = [.agg (aRd bs a')]) ∧ Sem P 314 [(.io 0 0, .agg (aRd bs a))] outs res := by
    refine fn_someR (E := { E0 with keep := [6000, 10000, 12000, 14000, 14001, 20002] }) E0_tab E0_ord (fn := Go.Proofs.Tryz.f314) (by kernel_rfl) (by kernel_rfl) ?_
    conv => whnf
    repeat' first | (refine Sq.cons ?_; conv => whnf) | (refine Dr.cons ?_; conv => whnf) | (refine Sq.nil ?_; conv => whnf) | (refine Dr.nil ?_; refine drawIf (by kernel_rfl) ?_; conv => whnf) | refine Vc.seq ?_ | (refine Vc.region rfl ?_; conv => whnf) | (refine Vc.draw rfl (by kernel_rfl) ?_; conv => whnf) | (refine Vc.cond ?_; conv => whnf) | refine Vc.block ?_ | (refine Vc.ret ?_; conv => whnf) | (refine Vc.skip ?_; conv => whnf) | (refine Vc.exit ?_; conv => whnf) | (refine mkSl (by omega) (by omega) ?_; conv => whnf) | (refine ifB_i (fun _ => ?_) (fun _ => ?_) <;> conv => whnf)
    refine callIo (draw_pick bs _ _ (by omega) (by omega) hbs) ?_
    rintro _ _ ⟨v, hv, rfl, rfl⟩
    have hv2 : v = 0 ∨ v = 1 := by omega
    rcases hv2 with rfl | rfl
    all_goals conv => whnf
    all_goals repeat' first | (refine Sq.cons ?_; conv => whnf) | (refine Dr.cons ?_; conv => whnf) | (refine Sq.nil ?_; conv => whnf) | (refine Dr.nil ?_; refine drawIf (by kernel_rfl) ?_; conv => whnf) | refine Vc.seq ?_ | (refine Vc.region rfl ?_; conv => whnf) | (refine Vc.draw rfl (by kernel_rfl) ?_; conv => whnf) | (refine Vc.cond ?_; conv => whnf) | refine Vc.block ?_ | (refine Vc.ret ?_; conv => whnf) | (refine Vc.skip ?_; conv => whnf) | (refine Vc.exit ?_; conv => whnf) | (refine mkSl (by omega) (by omega) ?_; conv => whnf) | (refine ifB_i (fun _ => ?_) (fun _ => ?_) <;> conv => whnf) | (refine callIo (draw_pick bs _ _ (by omega) (by omega) hbs) ?_; rintro _ _ ⟨n, hn, rfl, rfl⟩; conv => whnf) | (refine ⟨_, spec_num _ _ _, ?_⟩; conv => whnf) | (refine ⟨_, spec_with _ 0 _ (by decide), ?_⟩; conv => whnf) | (refine ⟨_, spec_with _ 1 _ (by decide), ?_⟩; conv => whnf) | (refine ⟨_, spec_with _ 2 _ (by decide), ?_⟩; conv => whnf) | (refine w64 (by first | omega | (dsimp only; omega)) (by first | omega | (dsimp only; omega)) ?_; conv => whnf)
    all_goals first
      | exact ⟨[⟨_, _, _, ⟨_, _, _⟩⟩], _, ⟨by omega, by omega⟩, by decide, rfl, rfl⟩
      | exact ⟨[⟨_, _, _, ⟨_, _, _⟩⟩, ⟨_, _, _, ⟨_, _, _⟩⟩], _, ⟨by omega, by omega⟩, by decide, rfl, rfl⟩
      | exact ⟨[⟨_, _, _, ⟨_, _, _⟩⟩, ⟨_, _, _, ⟨_, _, _⟩⟩, ⟨_, _, _, ⟨_, _, _⟩⟩], _, ⟨by omega, by omega⟩, by decide, rfl, rfl⟩
      | exact ⟨[⟨_, _, _, ⟨_, _, _⟩⟩, ⟨_, _, _, ⟨_, _, _⟩⟩, ⟨_, _, _, ⟨_, _, _⟩⟩, ⟨_, _, _, ⟨_, _, _⟩⟩, ⟨_, _, _, Form.nil⟩], _, ⟨by omega, by omega⟩, by decide, rfl, rfl⟩
      | skip
    all_goals
      refine Vc.loop3 (fun (i : Int) (out : List Line) (b : Int) => 0 ≤ i ∧ i ≤ 5 ∧ (out.length : Int) ≤ 5 - i ∧ actOk out = true ∧ a ≤ b ∧ b ≤ a + 3 + (5 - i) * 10) (fun i out b => updL [0, 2, 83] [(5, I i), (4, .one (.ref 960000))] [(960000, .arr 131 (out.map eL) false), (63, .box (aRd bs b))]) (fun i _ _ => i.toNat) (1 + n) [] (a + 1 + 1 + 1) ⟨by omega, by omega, by simp; omega, rfl, by omega, by omega⟩ ?_ (fun i out b hi => ?_)
      · repeat' (first | exact True.intro | ((conv => whnf); first | exact True.intro | refine ⟨by rfl, ?_⟩ | refine ⟨by first | omega | (show (_ : Int) = _; dsimp only; omega), ?_⟩ | refine ⟨?_, ?_⟩))
      · obtain ⟨i0, i5, ho, hok, b1, b2⟩ := hi
        have lo : (out.map eL).length = out.length := List.length_map ..
        conv => whnf
        (repeat' first | (refine Sq.cons ?_; conv => whnf) | (refine Dr.cons ?_; conv => whnf) | (refine Sq.nil ?_; conv => whnf) | (refine Dr.nil ?_; refine drawIf (by kernel_rfl) ?_; conv => whnf) | refine Vc.seq ?_ | (refine Vc.region rfl ?_; conv => whnf) | (refine Vc.draw rfl (by kernel_rfl) ?_; conv => whnf) | (refine Vc.cond ?_; conv => whnf) | refine Vc.block ?_ | (refine Vc.ret ?_; conv => whnf) | (refine Vc.skip ?_; conv => whnf) | (refine Vc.exit ?_; conv => whnf) | (refine mkSl (by omega) (by omega) ?_; conv => whnf))
        refine ifB_d (fun g => ?_) (fun g => ?_)
        all_goals conv => whnf
        · repeat' first | (refine Sq.cons ?_; conv => whnf) | (refine Dr.cons ?_; conv => whnf) | (refine Sq.nil ?_; conv => whnf) | (refine Dr.nil ?_; refine drawIf (by kernel_rfl) ?_; conv => whnf) | refine Vc.seq ?_ | (refine Vc.region rfl ?_; conv => whnf) | (refine Vc.draw rfl (by kernel_rfl) ?_; conv => whnf) | (refine Vc.cond ?_; conv => whnf) | refine Vc.block ?_ | (refine Vc.ret ?_; conv => whnf) | (refine Vc.skip ?_; conv => whnf) | (refine Vc.exit ?_; conv => whnf) | (refine mkSl (by omega) (by omega) ?_; conv => whnf) | (refine ifB_i (fun _ => ?_) (fun _ => ?_) <;> conv => whnf) | (refine callIo (draw_line bs _ (by omega) hbs) ?_; rintro _ _ ⟨l, b', hb', hl, rfl, rfl⟩; conv => whnf) | (refine apN (by simp; omega) ?_; conv => whnf) | (refine apS (sh_lines _) ?_; conv => whnf) | (refine ⟨_, spec_actOkA _ _, ?_⟩; conv => whnf) | (refine w64 (by first | omega | (dsimp only; omega)) (by first | omega | (dsimp only; omega)) ?_; conv => whnf)
          · rename_i h
            refine ⟨i - 1, out ++ [l], b', ⟨by omega, by omega, by simp; omega, h, by omega, by omega⟩, by simp only; omega, ?_⟩
            repeat' (first | exact True.intro | ((conv => whnf); first | exact True.intro | refine ⟨by rfl, ?_⟩ | refine ⟨by first | omega | (show (_ : Int) = _; dsimp only; omega) | exact app_lines _ _, ?_⟩ | refine ⟨?_, ?_⟩))
          · refine ⟨i - 1, out, b', ⟨by omega, by omega, by omega, hok, by omega, by omega⟩, by simp only; omega, ?_⟩
            repeat' (first | exact True.intro | ((conv => whnf); first | exact True.intro | refine ⟨by rfl, ?_⟩ | refine ⟨by first | omega | (show (_ : Int) = _; dsimp only; omega), ?_⟩ | refine ⟨?_, ?_⟩))
        · repeat' first | (refine Sq.cons ?_; conv => whnf) | (refine Dr.cons ?_; conv => whnf) | (refine Sq.nil ?_; conv => whnf) | (refine Dr.nil ?_; refine drawIf (by kernel_rfl) ?_; conv => whnf) | refine Vc.seq ?_ | (refine Vc.region rfl ?_; conv => whnf) | (refine Vc.draw rfl (by kernel_rfl) ?_; conv => whnf) | (refine Vc.cond ?_; conv => whnf) | refine Vc.block ?_ | (refine Vc.ret ?_; conv => whnf) | (refine Vc.skip ?_; conv => whnf) | (refine Vc.exit ?_; conv => whnf) | (refine mkSl (by omega) (by omega) ?_; conv => whnf) | (refine ifB_i (fun _ => ?_) (fun _ => ?_) <;> conv => whnf)
          exact ⟨out, b, ⟨by omega, by omega⟩, hok, rfl, rfl⟩
  obtain ⟨r, o, ⟨f, a', h1, h2, h3, rfl⟩, h4⟩ := key
  exact ⟨_, r, ⟨f, a', h1, h2, h3, rfl⟩, h4⟩
end Cc
end
section
namespace Cc
open Go Go.AM
set_option maxRecDepth 100000
set_option maxHeartbeats 4000000
theorem actOk_len {act : List Line} (h : actOk act = true) : act.length ≤ 6 := (actOk_iff.1 h).2.1
theorem app_acts (l : List (List Line)) (x : List Line) : l.map eA ++ [eA x] = (l ++ [x]).map eA := by simp
theorem catOk_iff {l : List (List Line)} : catOk l = true ↔ (1 ≤ l.length ∧ l.length ≤ 4) ∧ ∀ x ∈ l, actOk x = true := by
  simp [catOk, inB_iff]; omega
theorem draw_acts (bs : List UInt8) (a : Int) (ha : 0 ≤ a ∧ a ≤ 8000000000) (hbs : bs.length ≤ 2000) :
    ∃ os res, (∃ (acts : List (List Line)) (a' : Int), (a ≤ a' ∧ a' ≤ a + 250) ∧ catOk acts = true ∧ res = .one (sAs acts) ∧ os = aRd bs a') ∧ Sem P 254 [(.io 0 0, .agg (aRd bs a))] [.agg os] res := by
  have key : ∃ res outs, (∃ (acts : List (List Line)) (a' : Int), (a ≤ a' ∧ a' ≤ a + 250) ∧ catOk acts = true ∧ res = .one (sAs acts) ∧ outs = [.agg (aRd bs a')]) ∧ Sem P 254 [(.io 0 0, .agg (aRd bs a))] outs res := by
    refine fn_someR (E := E0) E0_tab E0_ord (fn := Go.Proofs.Tryz.f254) (by kernel_rfl) (by kernel_rfl) ?_
    conv => whnf
    repeat' first | (refine Sq.cons ?_; conv => whnf) | (refine Dr.cons ?_; conv => whnf) | (refine Sq.nil ?_; conv => whnf) | (refine Dr.nil ?_; refine drawIf (by kernel_rfl) ?_; conv => whnf) | refine Vc.seq ?_ | (refine Vc.region rfl ?_; conv => whnf) | (refine Vc.draw rfl (by kernel_rfl) ?_; conv => whnf) | (refine Vc.cond ?_; conv => whnf) | refine Vc.block ?_ | (refine Vc.ret ?_; conv => whnf) | (refine Vc.skip ?_; conv => whnf) | (refine Vc.exit ?_; conv => whnf) | (refine mkSl (by omega) (by omega) ?_; conv => whnf) | (refine ifB_i (fun _ => ?_) (fun _ => ?_) <;> conv => whnf) | (refine callIo (draw_pick bs _ _ (by omega) (by omega) hbs) ?_; rintro _ _ ⟨n, hn, rfl, rfl⟩; conv => whnf) | (refine ioN (by first | omega | (dsimp only; omega) | (simp <;> omega) | (simp_all <;> omega)) (by first | omega | (dsimp only; omega) | (simp <;> omega) | (simp_all <;> omega)) ?_; conv => whnf) | (refine rwI rfl (by first | omega | (dsimp only; omega) | (simp <;> omega) | (simp_all <;> omega)) (by first | omega | (dsimp only; omega) | (simp <;> omega) | (simp_all <;> omega)) fun c hc => ?_; conv => whnf) | (refine rwN (enc := rI) 0 (by first | omega | (dsimp only; omega) | (simp <;> omega) | (simp_all <;> omega)) ?_; conv => whnf) | (refine w64 (by first | omega | (dsimp only; omega)) (by first | omega | (dsimp only; omega)) ?_; conv => whnf) | (refine apN (by simp; omega) ?_; conv => whnf)
    refine Vc.loop3 (fun (i : Int) (out : List (List Line)) (b : Int) => 0 ≤ i ∧ (out.length : Int) = 1 + n - i ∧ (∀ x ∈ out, actOk x = true) ∧ a ≤ b ∧ b ≤ a + 1 + (1 + n - i) * 60) (fun i out b => updL [0, 2, 18] [(4, I i), (3, .one (.ref 128000))] [(128000, .arr 40 (out.map eA) false), (63, .box (aRd bs b))]) (fun i _ _ => i.toNat) (1 + n) [] (a + 1) ⟨by omega, by simp, by simp, by omega, by omega⟩ ?_ (fun i out b hi => ?_)
    · repeat' (first | exact True.intro | ((conv => whnf); first | exact True.intro | refine ⟨by rfl, ?_⟩ | refine ⟨by first | omega | (show (_ : Int) = _; dsimp only; omega), ?_⟩ | refine ⟨?_, ?_⟩))
    · obtain ⟨i0, ho, hok, b1, b2⟩ := hi
      have lo : (out.map eA).length = out.length := List.length_map ..
      conv => whnf
      (repeat' first | (refine Sq.cons ?_; conv => whnf) | (refine Dr.cons ?_; conv => whnf) | (refine Sq.nil ?_; conv => whnf) | (refine Dr.nil ?_; refine drawIf (by kernel_rfl) ?_; conv => whnf) | refine Vc.seq ?_ | (refine Vc.region rfl ?_; conv => whnf) | (refine Vc.draw rfl (by kernel_rfl) ?_; conv => whnf) | (refine Vc.cond ?_; conv => whnf) | refine Vc.block ?_ | (refine Vc.ret ?_; conv => whnf) | (refine Vc.skip ?_; conv => whnf) | (refine Vc.exit ?_; conv => whnf) | (refine mkSl (by omega) (by omega) ?_; conv => whnf))
      refine ifB_d (fun g => ?_) (fun g => ?_)
      all_goals conv => whnf
      · repeat' first | (refine Sq.cons ?_; conv => whnf) | (refine Dr.cons ?_; conv => whnf) | (refine Sq.nil ?_; conv => whnf) | (refine Dr.nil ?_; refine drawIf (by kernel_rfl) ?_; conv => whnf) | refine Vc.seq ?_ | (refine Vc.region rfl ?_; conv => whnf) | (refine Vc.draw rfl (by kernel_rfl) ?_; conv => whnf) | (refine Vc.cond ?_; conv => whnf) | refine Vc.block ?_ | (refine Vc.ret ?_; conv => whnf) | (refine Vc.skip ?_; conv => whnf) | (refine Vc.exit ?_; conv => whnf) | (refine mkSl (by omega) (by omega) ?_; conv => whnf) | (refine ifB_i (fun _ => ?_) (fun _ => ?_) <;> conv => whnf) | (refine callIo (draw_act bs _ (by omega) hbs) ?_; rintro _ _ ⟨l, b', hb', hl, rfl, rfl⟩; conv => whnf) | (refine apN (by simp; omega) ?_; conv => whnf) | (refine w64 (by first | omega | (dsimp only; omega)) (by first | omega | (dsimp only; omega)) ?_; conv => whnf)
        refine ⟨i - 1, out ++ [l], b', ⟨by omega, by simp; omega, fun x hx => ?_, by omega, by omega⟩, by simp only; omega, ?_⟩
        · rcases List.mem_append.1 hx with h | h
          · exact hok x h
          · rw [List.mem_singleton.1 h]; exact hl
        · repeat' (first | exact True.intro | ((conv => whnf); first | exact True.intro | refine ⟨by rfl, ?_⟩ | refine ⟨by first | omega | (show (_ : Int) = _; dsimp only; omega) | exact app_acts _ _, ?_⟩ | refine ⟨?_, ?_⟩))
      · repeat' first | (refine Sq.cons ?_; conv => whnf) | (refine Dr.cons ?_; conv => whnf) | (refine Sq.nil ?_; conv => whnf) | (refine Dr.nil ?_; refine drawIf (by kernel_rfl) ?_; conv => whnf) | refine Vc.seq ?_ | (refine Vc.region rfl ?_; conv => whnf) | (refine Vc.draw rfl (by kernel_rfl) ?_; conv => whnf) | (refine Vc.cond ?_; conv => whnf) | refine Vc.block ?_ | (refine Vc.ret ?_; conv => whnf) | (refine Vc.skip ?_; conv => whnf) | (refine Vc.exit ?_; conv => whnf) | (refine mkSl (by omega) (by omega) ?_; conv => whnf) | (refine ifB_i (fun _ => ?_) (fun _ => ?_) <;> conv => whnf)
        exact ⟨out, b, ⟨by omega, by omega⟩, catOk_iff.2 ⟨⟨by omega, by omega⟩, hok⟩, rfl, rfl⟩
  obtain ⟨r, o, ⟨f, a', h1, h2, h3, rfl⟩, h4⟩ := key
  exact ⟨_, r, ⟨f, a', h1, h2, h3, rfl⟩, h4⟩
theorem set_lines (l : List Line) (i : Nat) (x : Line) : (l.map eL).set i (eL x) = (l.set i x).map eL := List.map_set.symm
theorem set_line (l : List Line) (i : Nat) (k p s : Int) (f : Form) : (l.map eL).set i [eI k, eI p, eI s, fI f.C, fI f.D, eI f.K] = (l.set i ⟨k, p, s, f⟩).map eL := set_lines l i ⟨k, p, s, f⟩
theorem app_line2 (l : List Line) (k p s : Int) (f : Form) (k' p' s' : Int) (f' : Form) : l.map eL ++ [[eI k, eI p, eI s, fI f.C, fI f.D, eI f.K], [eI k', eI p', eI s', fI f'.C, fI f'.D, eI f'.K]] = (l ++ [(⟨k, p, s, f⟩ : Line), ⟨k', p', s', f'⟩]).map eL := by simp
theorem draw_anyAct (bs : List UInt8) (a k : Int) (ha : 0 ≤ a ∧ a ≤ 8000000000) (hk : 1 ≤ k ∧ k ≤ 1000000) (hbs : bs.length ≤ 2000) :
    ∃ os res, (∃ (act : List Line) (a' : Int), (a ≤ a' ∧ a' ≤ a + 120) ∧ act.length ≤ 10 ∧ res = .one (sLs act) ∧ os = aRd bs a') ∧ Sem P 275 [(.io 0 0, .agg (aRd bs a)), (.pure, I k)] [.agg os] res := by
  have key : ∃ res outs, (∃ (act : List Line) (a' : Int), (a ≤ a' ∧ a' ≤ a + 120) ∧ act.length ≤ 10 ∧ res = .one (sLs act) ∧ outs = [.agg (aRd bs a')]) ∧ Sem P 275 [(.io 0 0, .agg (aRd bs a)), (.pure, I k)] outs res := by
    refine fn_someR (E := { E0 with keep := [2001] }) E0_tab E0_ord (fn := Go.Proofs.Tryz.f275) (by kernel_rfl) (by kernel_rfl) ?_
    conv => whnf
    repeat' first | (refine Sq.cons ?_; conv => whnf) | (refine Dr.cons ?_; conv => whnf) | (refine Sq.nil ?_; conv => whnf) | (refine Dr.nil ?_; refine drawIf (by kernel_rfl) ?_; conv => whnf) | refine Vc.seq ?_ | (refine Vc.region rfl ?_; conv => whnf) | (refine Vc.draw rfl (by kernel_rfl) ?_; conv => whnf) | (refine Vc.cond ?_; conv => whnf) | refine Vc.block ?_ | (refine Vc.ret ?_; conv => whnf) | (refine Vc.skip ?_; conv => whnf) | (refine Vc.exit ?_; conv => whnf) | (refine mkSl (by omega) (by omega) ?_; conv => whnf) | (refine ifB_i (fun _ => ?_) (fun _ => ?_) <;> conv => whnf) | (refine callIo (draw_act bs _ (by omega) hbs) ?_; rintro _ _ ⟨l, b', hb', hl, rfl, rfl⟩; have hll := actOk_len hl; have lo : (l.map eL).length = l.length := List.length_map ..; conv => whnf) | (refine callIo (draw_pick bs _ _ (by omega) (by omega) hbs) ?_; rintro _ _ ⟨n, hn, rfl, rfl⟩; conv => whnf) | (refine ioN (by first | omega | (dsimp only; omega) | (simp <;> omega) | (simp_all <;> omega)) (by first | omega | (dsimp only; omega) | (simp <;> omega) | (simp_all <;> omega)) ?_; conv => whnf) | (refine rwI rfl (by first | omega | (dsimp only; omega) | (simp <;> omega) | (simp_all <;> omega)) (by first | omega | (dsimp only; omega) | (simp <;> omega) | (simp_all <;> omega)) fun c hc => ?_; conv => whnf) | (refine rwN (enc := rI) 0 (by first | omega | (dsimp only; omega) | (simp <;> omega) | (simp_all <;> omega)) ?_; conv => whnf) | (refine w64 (by first | omega | (dsimp only; omega)) (by first | omega | (dsimp only; omega)) ?_; conv => whnf) | (refine apN (by simp; omega) ?_; conv => whnf)
    · exact ⟨l, b', ⟨by omega, by omega⟩, by omega, rfl, rfl⟩
    · exact ⟨l, b' + 1, ⟨by omega, by omega⟩, by omega, rfl, rfl⟩
    · rename_i h0 _
      have h0 : 1 ≤ l.length := by rw [beq_eq_false_iff_ne] at h0; omega
      repeat' first | (refine Sq.cons ?_; conv => whnf) | (refine Dr.cons ?_; conv => whnf) | (refine Sq.nil ?_; conv => whnf) | (refine Dr.nil ?_; refine drawIf (by kernel_rfl) ?_; conv => whnf) | refine Vc.seq ?_ | (refine Vc.region rfl ?_; conv => whnf) | (refine Vc.draw rfl (by kernel_rfl) ?_; conv => whnf) | (refine Vc.cond ?_; conv => whnf) | refine Vc.block ?_ | (refine Vc.ret ?_; conv => whnf) | (refine Vc.skip ?_; conv => whnf) | (refine Vc.exit ?_; conv => whnf) | (refine mkSl (by omega) (by omega) ?_; conv => whnf) | (refine ifB_i (fun _ => ?_) (fun _ => ?_) <;> conv => whnf) | (refine callIo (draw_pick bs _ ((l.map eL).length : Int) (by omega) (by omega) hbs) ?_; rintro _ _ ⟨n, hn, rfl, rfl⟩; conv => whnf)
      repeat' first | (refine Sq.cons ?_; conv => whnf) | (refine Dr.cons ?_; conv => whnf) | (refine Sq.nil ?_; conv => whnf) | (refine Dr.nil ?_; refine drawIf (by kernel_rfl) ?_; conv => whnf) | refine Vc.seq ?_ | (refine Vc.region rfl ?_; conv => whnf) | (refine Vc.draw rfl (by kernel_rfl) ?_; conv => whnf) | (refine Vc.cond ?_; conv => whnf) | refine Vc.block ?_ | (refine Vc.ret ?_; conv => whnf) | (refine Vc.skip ?_; conv => whnf) | (refine Vc.exit ?_; conv => whnf) | (refine mkSl (by omega) (by omega) ?_; conv => whnf) | (refine ifB_i (fun _ => ?_) (fun _ => ?_) <;> conv => whnf) | (refine callIo (draw_pick bs _ _ (by omega) (by omega) hbs) ?_; rintro _ _ ⟨n, hn, rfl, rfl⟩; conv => whnf) | (refine ioN (by first | omega | (dsimp only; omega) | (simp <;> omega) | (simp_all <;> omega)) (by first | omega | (dsimp only; omega) | (simp <;> omega) | (simp_all <;> omega)) ?_; conv => whnf) | (refine rwI rfl (by first | omega | (dsimp only; omega) | (simp <;> omega) | (simp_all <;> omega)) (by first | omega | (dsimp only; omega) | (simp <;> omega) | (simp_all <;> omega)) fun c hc => ?_; conv => whnf) | (refine rwN (enc := rI) 0 (by first | omega | (dsimp only; omega) | (simp <;> omega) | (simp_all <;> omega)) ?_; conv => whnf) | (refine w64 (by first | omega | (dsimp only; omega)) (by first | omega | (dsimp only; omega)) ?_; conv => whnf) | (refine apN (by simp; omega) ?_; conv => whnf) | (refine rwN (enc := eL) default (by first | omega | (dsimp only; omega) | (simp <;> omega) | (simp_all <;> omega)) ?_; conv => whnf) | (refine callIo (draw_form bs _ _ (by omega) (by omega) hbs) ?_; rintro _ _ ⟨f, b'', hb'', rfl, rfl⟩; conv => whnf) | (refine callIo (draw_small bs _ (by omega) hbs) ?_; rintro _ _ ⟨f, b'', hb'', hf, rfl, rfl⟩; conv => whnf)
      all_goals first
        | exact ⟨_, _, ⟨by omega, by omega⟩, Nat.le_trans (Nat.le_of_eq List.length_set) (by omega), congrArg (fun x => TV.one (.sl 131 x)) (set_line l _ _ _ _ _), rfl⟩
        | exact ⟨_, _, ⟨by omega, by omega⟩, by simp; omega, congrArg (fun x => TV.one (.sl 131 x)) (app_line2 l _ _ _ _ _ _ _ _), rfl⟩
        | skip
      rename_i m hm _ _ _ _ _
      refine Vc.loop1 (fun (out : List Line) => l.length ≤ out.length ∧ out.length ≤ 7) (fun out => updL [0, 4, 6, 25, 26, 27, 28, 29, 30, 31, 32, 33, 87] [(5, .one (.ref 128064))] [(128064, .arr 131 (out.map eL) false)]) (fun out => 7 - out.length) l ⟨by omega, by omega⟩ ?_ (fun out hi => ?_)
      · repeat' (first | exact True.intro | ((conv => whnf); first | exact True.intro | refine ⟨by rfl, ?_⟩ | refine ⟨by first | omega | (show (_ : Int) = _; dsimp only; omega), ?_⟩ | refine ⟨?_, ?_⟩))
      · have lo' : (out.map eL).length = out.length := List.length_map ..
        obtain ⟨h1, h2⟩ := hi
        conv => whnf
        (repeat' first | (refine Sq.cons ?_; conv => whnf) | (refine Dr.cons ?_; conv => whnf) | (refine Sq.nil ?_; conv => whnf) | (refine Dr.nil ?_; refine drawIf (by kernel_rfl) ?_; conv => whnf) | refine Vc.seq ?_ | (refine Vc.region rfl ?_; conv => whnf) | (refine Vc.draw rfl (by kernel_rfl) ?_; conv => whnf) | (refine Vc.cond ?_; conv => whnf) | refine Vc.block ?_ | (refine Vc.ret ?_; conv => whnf) | (refine Vc.skip ?_; conv => whnf) | (refine Vc.exit ?_; conv => whnf) | (refine mkSl (by omega) (by omega) ?_; conv => whnf))
        refine ifB_d (fun g => ?_) (fun g => ?_)
        all_goals conv => whnf
        · repeat' first | (refine Sq.cons ?_; conv => whnf) | (refine Dr.cons ?_; conv => whnf) | (refine Sq.nil ?_; conv => whnf) | (refine Dr.nil ?_; refine drawIf (by kernel_rfl) ?_; conv => whnf) | refine Vc.seq ?_ | (refine Vc.region rfl ?_; conv => whnf) | (refine Vc.draw rfl (by kernel_rfl) ?_; conv => whnf) | (refine Vc.cond ?_; conv => whnf) | refine Vc.block ?_ | (refine Vc.ret ?_; conv => whnf) | (refine Vc.skip ?_; conv => whnf) | (refine Vc.exit ?_; conv => whnf) | (refine mkSl (by omega) (by omega) ?_; conv => whnf) | (refine ifB_i (fun _ => ?_) (fun _ => ?_) <;> conv => whnf) | (refine ioN (by first | omega | (dsimp only; omega) | (simp <;> omega) | (simp_all <;> omega)) (by first | omega | (dsimp only; omega) | (simp <;> omega) | (simp_all <;> omega)) ?_; conv => whnf) | (refine rwN (enc := eL) default (by first | omega | (dsimp only; omega) | (simp <;> omega) | (simp_all <;> omega)) ?_; conv => whnf) | (refine apN (by simp; omega) ?_; conv => whnf)
          refine ⟨out ++ [out.getD m.toNat default], ⟨by simp; omega, by simp; omega⟩, by simp; omega, ?_⟩
          repeat' (first | exact True.intro | ((conv => whnf); first | exact True.intro | refine ⟨by rfl, ?_⟩ | refine ⟨by first | omega | (show (_ : Int) = _; dsimp only; omega) | exact app_lines _ _, ?_⟩ | refine ⟨?_, ?_⟩))
        · repeat' first | (refine Sq.cons ?_; conv => whnf) | (refine Dr.cons ?_; conv => whnf) | (refine Sq.nil ?_; conv => whnf) | (refine Dr.nil ?_; refine drawIf (by kernel_rfl) ?_; conv => whnf) | refine Vc.seq ?_ | (refine Vc.region rfl ?_; conv => whnf) | (refine Vc.draw rfl (by kernel_rfl) ?_; conv => whnf) | (refine Vc.cond ?_; conv => whnf) | refine Vc.block ?_ | (refine Vc.ret ?_; conv => whnf) | (refine Vc.skip ?_; conv => whnf) | (refine Vc.exit ?_; conv => whnf) | (refine mkSl (by omega) (by omega) ?_; conv => whnf) | (refine ifB_i (fun _ => ?_) (fun _ => ?_) <;> conv => whnf)
          exact ⟨out, _, ⟨by omega, by omega⟩, by omega, rfl, rfl⟩
  obtain ⟨r, o, ⟨f, a', h1, h2, h3, rfl⟩, h4⟩ := key
  exact ⟨_, r, ⟨f, a', h1, h2, h3, rfl⟩, h4⟩
end Cc
end
section
namespace Cc
open Go Go.AM
set_option maxRecDepth 100000
set_option maxHeartbeats 4000000
theorem set_act (l : List (List Line)) (i : Nat) (x : List Line) : (l.map eA).set i [fLs x] = (l.set i x).map eA := List.map_set.symm
theorem draw_anyActs (bs : List UInt8) (a k : Int) (ha : 0 ≤ a ∧ a ≤ 7000000000) (hk : 1 ≤ k ∧ k ≤ 1000000) (hbs : bs.length ≤ 2000) :
    ∃ os res, (∃ (acts : List (List Line)) (a' : Int), (a ≤ a' ∧ a' ≤ a + 400) ∧ acts.length ≤ 10 ∧ res = .one (sAs acts) ∧ os = aRd bs a') ∧ Sem P 178 [(.io 0 0, .agg (aRd bs a)), (.pure, I k)] [.agg os] res := by
  have key : ∃ res outs, (∃ (acts : List (List Line)) (a' : Int), (a ≤ a' ∧ a' ≤ a + 400) ∧ acts.length ≤ 10 ∧ res = .one (sAs acts) ∧ outs = [.agg (aRd bs a')]) ∧ Sem P 178 [(.io 0 0, .agg (aRd bs a)), (.pure, I k)] outs res := by
    refine fn_someR (E := { E0 with keep := [2001] }) E0_tab E0_ord (fn := Go.Proofs.Tryz.f178) (by kernel_rfl) (by kernel_rfl) ?_
    conv => whnf
    repeat' first | (refine Sq.cons ?_; conv => whnf) | (refine Dr.cons ?_; conv => whnf) | (refine Sq.nil ?_; conv => whnf) | (refine Dr.nil ?_; refine drawIf (by kernel_rfl) ?_; conv => whnf) | refine Vc.seq ?_ | (refine Vc.region rfl ?_; conv => whnf) | (refine Vc.draw rfl (by kernel_rfl) ?_; conv => whnf) | (refine Vc.cond ?_; conv => whnf) | refine Vc.block ?_ | (refine Vc.ret ?_; conv => whnf) | (refine Vc.skip ?_; conv => whnf) | (refine Vc.exit ?_; conv => whnf) | (refine mkSl (by omega) (by omega) ?_; conv => whnf) | (refine ifB_i (fun _ => ?_) (fun _ => ?_) <;> conv => whnf) | (refine callIo (draw_acts bs _ (by omega) hbs) ?_; rintro _ _ ⟨l, b', hb', hl, rfl, rfl⟩; obtain ⟨⟨l1, l4⟩, hl⟩ := catOk_iff.1 hl; have lo : (l.map eA).length = l.length := List.length_map ..; conv => whnf) | (refine callIo (draw_pick bs _ _ (by omega) (by omega) hbs) ?_; rintro _ _ ⟨n, hn, rfl, rfl⟩; conv => whnf) | (refine ioN (by first | omega | (dsimp only; omega) | (simp <;> omega) | (simp_all <;> omega)) (by first | omega | (dsimp only; omega) | (simp <;> omega) | (simp_all <;> omega)) ?_; conv => whnf) | (refine rwI rfl (by first | omega | (dsimp only; omega) | (simp <;> omega) | (simp_all <;> omega)) (by first | omega | (dsimp only; omega) | (simp <;> omega) | (simp_all <;> omega)) fun c hc => ?_; conv => whnf) | (refine rwN (enc := rI) 0 (by first | omega | (dsimp only; omega) | (simp <;> omega) | (simp_all <;> omega)) ?_; conv => whnf) | (refine w64 (by first | omega | (dsimp only; omega)) (by first | omega | (dsimp only; omega)) ?_; conv => whnf) | (refine apN (by simp; omega) ?_; conv => whnf) | (refine callIo (draw_anyAct bs _ _ (by omega) (by omega) hbs) ?_; rintro _ _ ⟨f, b'', hb'', hf, rfl, rfl⟩; conv => whnf) | (refine ioN (by decide) (by first | omega | (dsimp only; omega) | (simp <;> omega) | (simp_all <;> omega)) ?_; conv => whnf) | (refine rwN (enc := eA) default (by first | omega | (dsimp only; omega) | (simp <;> omega) | (simp_all <;> omega)) ?_; conv => whnf)
    all_goals first
      | exact ⟨_, _, ⟨by omega, by omega⟩, by first | omega | simp | (simp; omega), rfl, rfl⟩
      | exact ⟨[], _, ⟨by omega, by omega⟩, by simp, rfl, rfl⟩
      | exact ⟨_, _, ⟨by omega, by omega⟩, by simp; omega, congrArg (fun x => TV.one (.sl 40 x)) (set_act l _ _), rfl⟩
      | skip
    refine Vc.loop1 (fun (out : List (List Line)) => l.length ≤ out.length ∧ out.length ≤ 5) (fun out => updL [4, 33] [(5, .one (.ref 128064))] [(128064, .arr 40 (out.map eA) false)]) (fun out => 7 - out.length) l ⟨by omega, by omega⟩ ?_ (fun out hi => ?_)
    · repeat' (first | exact True.intro | ((conv => whnf); first | exact True.intro | refine ⟨by rfl, ?_⟩ | refine ⟨by first | omega | (show (_ : Int) = _; dsimp only; omega), ?_⟩ | refine ⟨?_, ?_⟩))
    · have lo' : (out.map eA).length = out.length := List.length_map ..
      obtain ⟨h1, h2⟩ := hi
      conv => whnf
      (repeat' first | (refine Sq.cons ?_; conv => whnf) | (refine Dr.cons ?_; conv => whnf) | (refine Sq.nil ?_; conv => whnf) | (refine Dr.nil ?_; refine drawIf (by kernel_rfl) ?_; conv => whnf) | refine Vc.seq ?_ | (refine Vc.region rfl ?_; conv => whnf) | (refine Vc.draw rfl (by kernel_rfl) ?_; conv => whnf) | (refine Vc.cond ?_; conv => whnf) | refine Vc.block ?_ | (refine Vc.ret ?_; conv => whnf) | (refine Vc.skip ?_; conv => whnf) | (refine Vc.exit ?_; conv => whnf) | (refine mkSl (by omega) (by omega) ?_; conv => whnf))
      refine ifB_d (fun g => ?_) (fun g => ?_)
      all_goals conv => whnf
      · repeat' first | (refine Sq.cons ?_; conv => whnf) | (refine Dr.cons ?_; conv => whnf) | (refine Sq.nil ?_; conv => whnf) | (refine Dr.nil ?_; refine drawIf (by kernel_rfl) ?_; conv => whnf) | refine Vc.seq ?_ | (refine Vc.region rfl ?_; conv => whnf) | (refine Vc.draw rfl (by kernel_rfl) ?_; conv => whnf) | (refine Vc.cond ?_; conv => whnf) | refine Vc.block ?_ | (refine Vc.ret ?_; conv => whnf) | (refine Vc.skip ?_; conv => whnf) | (refine Vc.exit ?_; conv => whnf) | (refine mkSl (by omega) (by omega) ?_; conv => whnf) | (refine ifB_i (fun _ => ?_) (fun _ => ?_) <;> conv => whnf) | (refine ioN (by decide) (by first | omega | (dsimp only; omega) | (simp <;> omega) | (simp_all <;> omega)) ?_; conv => whnf) | (refine rwN (enc := eA) default (by first | omega | (dsimp only; omega) | (simp <;> omega) | (simp_all <;> omega)) ?_; conv => whnf) | (refine apN (by simp; omega) ?_; conv => whnf)
        refine ⟨out ++ [out.getD 0 default], ⟨by simp; omega, by simp; omega⟩, by simp; omega, ?_⟩
        repeat' (first | exact True.intro | ((conv => whnf); first | exact True.intro | refine ⟨by rfl, ?_⟩ | refine ⟨by first | omega | (show (_ : Int) = _; dsimp only; omega) | exact app_acts _ _, ?_⟩ | refine ⟨?_, ?_⟩))
      · repeat' first | (refine Sq.cons ?_; conv => whnf) | (refine Dr.cons ?_; conv => whnf) | (refine Sq.nil ?_; conv => whnf) | (refine Dr.nil ?_; refine drawIf (by kernel_rfl) ?_; conv => whnf) | refine Vc.seq ?_ | (refine Vc.region rfl ?_; conv => whnf) | (refine Vc.draw rfl (by kernel_rfl) ?_; conv => whnf) | (refine Vc.cond ?_; conv => whnf) | refine Vc.block ?_ | (refine Vc.ret ?_; conv => whnf) | (refine Vc.skip ?_; conv => whnf) | (refine Vc.exit ?_; conv => whnf) | (refine mkSl (by omega) (by omega) ?_; conv => whnf) | (refine ifB_i (fun _ => ?_) (fun _ => ?_) <;> conv => whnf)
        exact ⟨out, _, ⟨by omega, by omega⟩, by omega, rfl, rfl⟩
  obtain ⟨r, o, ⟨f, a', h1, h2, h3, rfl⟩, h4⟩ := key
  exact ⟨_, r, ⟨f, a', h1, h2, h3, rfl⟩, h4⟩
abbrev dPl (p : Plan) : List AV := [eI p.Clients, fAs p.Acts, sI p.Gives, sI p.Start]
theorem draw_plan (bs : List UInt8) (a : Int) (ha : 0 ≤ a ∧ a ≤ 7000000000) (hbs : bs.length ≤ 2000) :
    ∃ os res, (∃ (p : Plan) (a' : Int), (a ≤ a' ∧ a' ≤ a + 300) ∧ planOk p = true ∧ res = .agg (dPl p) ∧ os = aRd bs a') ∧ Sem P 164 [(.io 0 0, .agg (aRd bs a))] [.agg os] res := by
  have key : ∃ res outs, (∃ (p : Plan) (a' : Int), (a ≤ a' ∧ a' ≤ a + 300) ∧ planOk p = true ∧ res = .agg (dPl p) ∧ outs = [.agg (aRd bs a')]) ∧ Sem P 164 [(.io 0 0, .agg (aRd bs a))] outs res := by
    refine fn_someR (E := E0) E0_tab E0_ord (fn := Go.Proofs.Tryz.f164) (by kernel_rfl) (by kernel_rfl) ?_
    conv => whnf
    repeat' first | (refine Sq.cons ?_; conv => whnf) | (refine Dr.cons ?_; conv => whnf) | (refine Sq.nil ?_; conv => whnf) | (refine Dr.nil ?_; refine drawIf (by kernel_rfl) ?_; conv => whnf) | refine Vc.seq ?_ | (refine Vc.region rfl ?_; conv => whnf) | (refine Vc.draw rfl (by kernel_rfl) ?_; conv => whnf) | (refine Vc.cond ?_; conv => whnf) | refine Vc.block ?_ | (refine Vc.ret ?_; conv => whnf) | (refine Vc.skip ?_; conv => whnf) | (refine Vc.exit ?_; conv => whnf) | (refine mkSl (by omega) (by omega) ?_; conv => whnf) | (refine ifB_i (fun _ => ?_) (fun _ => ?_) <;> conv => whnf) | (refine callIo (draw_acts bs _ (by omega) hbs) ?_; rintro _ _ ⟨l, b', hb', hl, rfl, rfl⟩; conv => whnf) | (refine callIo (draw_pick bs _ _ (by omega) (by omega) hbs) ?_; rintro _ _ ⟨n, hn, rfl, rfl⟩; conv => whnf) | (refine ioN (by first | omega | (dsimp only; omega) | (simp <;> omega) | (simp_all <;> omega)) (by first | omega | (dsimp only; omega) | (simp <;> omega) | (simp_all <;> omega)) ?_; conv => whnf) | (refine rwI rfl (by first | omega | (dsimp only; omega) | (simp <;> omega) | (simp_all <;> omega)) (by first | omega | (dsimp only; omega) | (simp <;> omega) | (simp_all <;> omega)) fun c hc => ?_; conv => whnf) | (refine rwN (enc := rI) 0 (by first | omega | (dsimp only; omega) | (simp <;> omega) | (simp_all <;> omega)) ?_; conv => whnf) | (refine w64 (by first | omega | (dsimp only; omega)) (by first | omega | (dsimp only; omega)) ?_; conv => whnf) | (refine apN (by simp; omega) ?_; conv => whnf)
    rename_i m hm
    refine Vc.loop3 (fun (i : Int) (g : List Int) (b : Int) => 0 ≤ i ∧ (g.length : Int) = 1 + n - i ∧ (∀ x ∈ g, 0 ≤ x ∧ x ≤ 50) ∧ a ≤ b ∧ b ≤ a + 256 - i) (fun i g b => updL [0, 2, 3, 5, 29, 30, 31, 32, 33, 34, 35, 36, 37, 38, 39, 40, 41, 42, 43] [(4, I i)] [(128384, .box [eI (1 + m), fAs l, .ref 128451, .ref 128452]), (128451, .arr 3 (ints g) false), (63, .box (aRd bs b))]) (fun i _ _ => i.toNat) (1 + n) [] (b' + 1) ⟨by omega, by simp, by simp, by omega, by omega⟩ ?_ (fun i g b hi => ?_)
    · repeat' (first | exact True.intro | ((conv => whnf); first | exact True.intro | refine ⟨by rfl, ?_⟩ | refine ⟨by first | omega | (show (_ : Int) = _; dsimp only; omega), ?_⟩ | refine ⟨?_, ?_⟩))
    · obtain ⟨i0, hg, hgb, b1, b2⟩ := hi
      have lg := ints_len g
      conv => whnf
      (repeat' first | (refine Sq.cons ?_; conv => whnf) | (refine Dr.cons ?_; conv => whnf) | (refine Sq.nil ?_; conv => whnf) | (refine Dr.nil ?_; refine drawIf (by kernel_rfl) ?_; conv => whnf) | refine Vc.seq ?_ | (refine Vc.region rfl ?_; conv => whnf) | (refine Vc.draw rfl (by kernel_rfl) ?_; conv => whnf) | (refine Vc.cond ?_; conv => whnf) | refine Vc.block ?_ | (refine Vc.ret ?_; conv => whnf) | (refine Vc.skip ?_; conv => whnf) | (refine Vc.exit ?_; conv => whnf) | (refine mkSl (by omega) (by omega) ?_; conv => whnf))
      refine ifB_d (fun gd => ?_) (fun gd => ?_)
      all_goals conv => whnf
      · repeat' first | (refine Sq.cons ?_; conv => whnf) | (refine Dr.cons ?_; conv => whnf) | (refine Sq.nil ?_; conv => whnf) | (refine Dr.nil ?_; refine drawIf (by kernel_rfl) ?_; conv => whnf) | refine Vc.seq ?_ | (refine Vc.region rfl ?_; conv => whnf) | (refine Vc.draw rfl (by kernel_rfl) ?_; conv => whnf) | (refine Vc.cond ?_; conv => whnf) | refine Vc.block ?_ | (refine Vc.ret ?_; conv => whnf) | (refine Vc.skip ?_; conv => whnf) | (refine Vc.exit ?_; conv => whnf) | (refine mkSl (by omega) (by omega) ?_; conv => whnf) | (refine ifB_i (fun _ => ?_) (fun _ => ?_) <;> conv => whnf) | (refine callIo (draw_pick bs _ _ (by omega) (by omega) hbs) ?_; rintro _ _ ⟨n, hn, rfl, rfl⟩; conv => whnf) | (refine ioN (by first | omega | (dsimp only; omega) | (simp <;> omega) | (simp_all <;> omega)) (by first | omega | (dsimp only; omega) | (simp <;> omega) | (simp_all <;> omega)) ?_; conv => whnf) | (refine rwI rfl (by first | omega | (dsimp only; omega) | (simp <;> omega) | (simp_all <;> omega)) (by first | omega | (dsimp only; omega) | (simp <;> omega) | (simp_all <;> omega)) fun c hc => ?_; conv => whnf) | (refine rwN (enc := rI) 0 (by first | omega | (dsimp only; omega) | (simp <;> omega) | (simp_all <;> omega)) ?_; conv => whnf) | (refine w64 (by first | omega | (dsimp only; omega)) (by first | omega | (dsimp only; omega)) ?_; conv => whnf) | (refine apN (by simp; omega) ?_; conv => whnf)
        have hc2 : 0 ≤ c ∧ c ≤ 50 := by simp [unI] at hc; omega
        refine ⟨i - 1, g ++ [c], b + 1, ⟨by omega, by simp; omega, fun x hx => ?_, by omega, by omega⟩, by simp only; omega, ?_⟩
        · rcases List.mem_append.1 hx with h | h
          · exact hgb x h
          · rw [List.mem_singleton.1 h]; exact hc2
        · repeat' (first | exact True.intro | ((conv => whnf); first | exact True.intro | refine ⟨by rfl, ?_⟩ | refine ⟨by first | omega | (show (_ : Int) = _; dsimp only; omega) | exact app_ints _ _, ?_⟩ | refine ⟨?_, ?_⟩))
      · (repeat' first | (refine Sq.cons ?_; conv => whnf) | (refine Dr.cons ?_; conv => whnf) | (refine Sq.nil ?_; conv => whnf) | (refine Dr.nil ?_; refine drawIf (by kernel_rfl) ?_; conv => whnf) | refine Vc.seq ?_ | (refine Vc.region rfl ?_; conv => whnf) | (refine Vc.draw rfl (by kernel_rfl) ?_; conv => whnf) | (refine Vc.cond ?_; conv => whnf) | refine Vc.block ?_ | (refine Vc.ret ?_; conv => whnf) | (refine Vc.skip ?_; conv => whnf) | (refine Vc.exit ?_; conv => whnf) | (refine mkSl (by omega) (by omega) ?_; conv => whnf))
        refine Vc.loop3 (fun (v : Nat) (st : List Int) (b3 : Int) => v ≤ 3 ∧ st.length = v ∧ (∀ x ∈ st, -1000 ≤ x ∧ x ≤ 1000) ∧ a ≤ b3 ∧ b3 ≤ a + 260 + v) (fun v st b3 => updL [0, 2, 3, 43] [(5, I v)] [(128384, .box [eI (1 + m), fAs l, .ref 128451, .ref 128452]), (128452, .arr 3 (ints st) false), (63, .box (aRd bs b3))]) (fun v _ _ => 3 - v) 0 [] b ⟨by omega, rfl, by simp, by omega, by omega⟩ ?_ (fun v st b3 hi => ?_)
        · repeat' (first | exact True.intro | ((conv => whnf); first | exact True.intro | refine ⟨by rfl, ?_⟩ | refine ⟨by first | omega | (show (_ : Int) = _; dsimp only; omega), ?_⟩ | refine ⟨?_, ?_⟩))
        · obtain ⟨v3, hs, hsb, c1, c2⟩ := hi
          have ls := ints_len st
          conv => whnf
          (repeat' first | (refine Sq.cons ?_; conv => whnf) | (refine Dr.cons ?_; conv => whnf) | (refine Sq.nil ?_; conv => whnf) | (refine Dr.nil ?_; refine drawIf (by kernel_rfl) ?_; conv => whnf) | refine Vc.seq ?_ | (refine Vc.region rfl ?_; conv => whnf) | (refine Vc.draw rfl (by kernel_rfl) ?_; conv => whnf) | (refine Vc.cond ?_; conv => whnf) | refine Vc.block ?_ | (refine Vc.ret ?_; conv => whnf) | (refine Vc.skip ?_; conv => whnf) | (refine Vc.exit ?_; conv => whnf) | (refine mkSl (by omega) (by omega) ?_; conv => whnf))
          refine ifB_d (fun gd2 => ?_) (fun gd2 => ?_)
          all_goals conv => whnf
          · repeat' first | (refine Sq.cons ?_; conv => whnf) | (refine Dr.cons ?_; conv => whnf) | (refine Sq.nil ?_; conv => whnf) | (refine Dr.nil ?_; refine drawIf (by kernel_rfl) ?_; conv => whnf) | refine Vc.seq ?_ | (refine Vc.region rfl ?_; conv => whnf) | (refine Vc.draw rfl (by kernel_rfl) ?_; conv => whnf) | (refine Vc.cond ?_; conv => whnf) | refine Vc.block ?_ | (refine Vc.ret ?_; conv => whnf) | (refine Vc.skip ?_; conv => whnf) | (refine Vc.exit ?_; conv => whnf) | (refine mkSl (by omega) (by omega) ?_; conv => whnf) | (refine ifB_i (fun _ => ?_) (fun _ => ?_) <;> conv => whnf) | (refine callIo (draw_pick bs _ _ (by omega) (by omega) hbs) ?_; rintro _ _ ⟨n, hn, rfl, rfl⟩; conv => whnf) | (refine ioN (by first | omega | (dsimp only; omega) | (simp <;> omega) | (simp_all <;> omega)) (by first | omega | (dsimp only; omega) | (simp <;> omega) | (simp_all <;> omega)) ?_; conv => whnf) | (refine rwI rfl (by first | omega | (dsimp only; omega) | (simp <;> omega) | (simp_all <;> omega)) (by first | omega | (dsimp only; omega) | (simp <;> omega) | (simp_all <;> omega)) fun c hc => ?_; conv => whnf) | (refine rwN (enc := rI) 0 (by first | omega | (dsimp only; omega) | (simp <;> omega) | (simp_all <;> omega)) ?_; conv => whnf) | (refine w64 (by first | omega | (dsimp only; omega)) (by first | omega | (dsimp only; omega)) ?_; conv => whnf) | (refine apN (by simp; omega) ?_; conv => whnf)
            have hc2 : -1000 ≤ c ∧ c ≤ 1000 := by simp [unI] at hc; omega
            refine ⟨v + 1, st ++ [c], b3 + 1, ⟨by omega, by simp; omega, fun x hx => ?_, by omega, by omega⟩, by simp only; omega, ?_⟩
            · rcases List.mem_append.1 hx with h | h
              · exact hsb x h
              · rw [List.mem_singleton.1 h]; exact hc2
            · repeat' (first | exact True.intro | ((conv => whnf); first | exact True.intro | refine ⟨by rfl, ?_⟩ | refine ⟨by first | omega | (show (_ : Int) = _; dsimp only; omega) | exact app_ints _ _, ?_⟩ | refine ⟨?_, ?_⟩))
          · (repeat' first | (refine Sq.cons ?_; conv => whnf) | (refine Dr.cons ?_; conv => whnf) | (refine Sq.nil ?_; conv => whnf) | (refine Dr.nil ?_; refine drawIf (by kernel_rfl) ?_; conv => whnf) | refine Vc.seq ?_ | (refine Vc.region rfl ?_; conv => whnf) | (refine Vc.draw rfl (by kernel_rfl) ?_; conv => whnf) | (refine Vc.cond ?_; conv => whnf) | refine Vc.block ?_ | (refine Vc.ret ?_; conv => whnf) | (refine Vc.skip ?_; conv => whnf) | (refine Vc.exit ?_; conv => whnf) | (refine mkSl (by omega) (by omega) ?_; conv => whnf))
            refine ⟨⟨1 + m, l, g, st⟩, b3, ⟨by omega, by omega⟩, ?_, rfl, rfl⟩
            simp only [planOk, Bool.and_eq_true, Plan.treaty, trtOk, givesOk, valOk, List.all_eq_true]
            refine ⟨⟨⟨inB_iff.2 (by omega), hl⟩, within_iff.2 ⟨by omega, hsb⟩⟩, within_iff.2 ⟨by omega, fun x hx => ?_⟩, inB_iff.2 (by omega), fun x hx => inB_iff.2 (hgb x hx)⟩
            have := hsb x hx; omega
  obtain ⟨r, o, ⟨f, a', h1, h2, h3, rfl⟩, h4⟩ := key
  exact ⟨_, r, ⟨f, a', h1, h2, h3, rfl⟩, h4⟩
end Cc
end
