/- What this seat's program takes of Go's library, told for the evaluator: entries of the machine's own, strings.Repeat. No condition. -/
import Derived.Test.YtaggmkdoelocbaaGreatDoorWTys
import Derived.Lib.Bytealg
import Derived.Laws.Externs
namespace Go.V
open Go.Proofs
set_option maxRecDepth 100000

theorem val_str {v : Value} {cs : List Value} {w : World} {O : Foot} {x : List UInt8} (h : Val .str v cs) (hr : Rep w O .str .z x cs Foot.none) : v = .string ⟨x.toArray⟩ := by
  have h1 : cs = [v] := h
  have h2 : cs = [.string ⟨x.toArray⟩] := hr.1
  rw [h1] at h2
  injection h2

theorem val_int {k : IntKind} {v : Value} {cs : List Value} {w : World} {O : Foot} {x : Int} (h : Val (.int k) v cs) (hr : Rep w O (.int k) .z x cs Foot.none) : v = .int k x := by
  have h1 : cs = [v] := h
  have h2 : cs = [.int k x] := hr.1
  rw [h1] at h2
  injection h2

theorem res_int {w : World} {O : Foot} (n : Int) : ResVals w O [(.int .i64, .z)] [] ((n, ()) : Tup [.int .i64]) [.int .i64 n] :=
  ⟨.int .i64 n, [], [.int .i64 n], rfl, rfl, ⟨rfl, fun _ h => h⟩, rfl⟩
theorem res_str {w : World} {O : Foot} (l : List UInt8) : ResVals w O [(.str, .z)] [] ((l, ()) : Tup [.str]) [.string ⟨l.toArray⟩] :=
  ⟨.string ⟨l.toArray⟩, [], [.string ⟨l.toArray⟩], rfl, rfl, ⟨rfl, fun _ h => h⟩, rfl⟩

noncomputable def F296 (a b : List UInt8) : Option (Int × Unit) := some (Lib.compareBytes a b, ())
noncomputable def C296 : Fun := ⟨[.ro .str, .ro .str], [(.int .i64, .z)], fun z => F296 z.1 z.2.1⟩
theorem C296_ok : ExtOk Tryz.prog 296 C296 := by
  intro w z vs r h hr
  obtain ⟨v, vs', cs, rfl, hv, hrep, v2, vs2, cs2, rfl, hv2, hrep2, h3⟩ := h
  rw [show vs2 = [] from h3, val_str hv hrep, val_str hv2 hrep2]
  injection hr with hr
  subst hr
  refine ⟨[.int .i64 (Lib.compareBytes z.1 z.2.1)], ?_, res_int _⟩
  rw [run_callFunc_extern Tryz.func296 (by kernel_rfl) (by kernel_rfl) (by kernel_rfl) (e := Extern.BytealgCompare.compare) (by kernel_rfl)]
  rw [Lib.run_compareString]
  rfl

noncomputable def F332 (a : List UInt8) (c : Int) : Option (Int × Unit) := some (Lib.countByte a c.toNat.toUInt8, ())
noncomputable def C332 : Fun := ⟨[.ro .str, .ro (.int .u8)], [(.int .i64, .z)], fun z => F332 z.1 z.2.1⟩
theorem C332_ok : ExtOk Tryz.prog 332 C332 := by
  intro w z vs r h hr
  obtain ⟨v, vs', cs, rfl, hv, hrep, v2, vs2, cs2, rfl, hv2, hrep2, h3⟩ := h
  rw [show vs2 = [] from h3, val_str hv hrep, val_int hv2 hrep2]
  injection hr with hr
  subst hr
  refine ⟨[.int .i64 (Lib.countByte z.1 (asI (k := .u8) z.2.1).toNat.toUInt8)], ?_, res_int _⟩
  rw [run_callFunc_extern Tryz.func332 (by kernel_rfl) (by kernel_rfl) (by kernel_rfl) (e := Extern.BytealgCount.count) (by kernel_rfl)]
  exact (congrArg (fun m => Result.andThen m fun v w' => .ok (Next.value v) w') (Lib.run_countString (P := Tryz.prog) ⟨List.toArray z.1⟩ (asI (k := .u8) z.2.1) w)).trans rfl

noncomputable def F344 (a : List UInt8) (c : Int) : Option (Int × Unit) := some (Lib.indexByte a c.toNat.toUInt8, ())
noncomputable def C344 : Fun := ⟨[.ro .str, .ro (.int .u8)], [(.int .i64, .z)], fun z => F344 z.1 z.2.1⟩
theorem C344_ok : ExtOk Tryz.prog 344 C344 := by
  intro w z vs r h hr
  obtain ⟨v, vs', cs, rfl, hv, hrep, v2, vs2, cs2, rfl, hv2, hrep2, h3⟩ := h
  rw [show vs2 = [] from h3, val_str hv hrep, val_int hv2 hrep2]
  injection hr with hr
  subst hr
  refine ⟨[.int .i64 (Lib.indexByte z.1 (asI (k := .u8) z.2.1).toNat.toUInt8)], ?_, res_int _⟩
  rw [run_callFunc_extern Tryz.func344 (by kernel_rfl) (by kernel_rfl) (by kernel_rfl) (e := Extern.BytealgIndexByte.indexByte) (by kernel_rfl)]
  exact (congrArg (fun m => Result.andThen m fun v w' => .ok (Next.value v) w') (Lib.run_indexByteString (P := Tryz.prog) ⟨List.toArray z.1⟩ (asI (k := .u8) z.2.1) w)).trans rfl

end Go.V
