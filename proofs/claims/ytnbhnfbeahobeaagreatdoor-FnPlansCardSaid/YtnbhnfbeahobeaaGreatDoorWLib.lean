/- What this seat's program takes of Go's library, rI for the evaluator: entries of the machine's own, strings.Repeat. No condition. -/
import Derived.Test.YtnbhnfbeahobeaaGreatDoorWTys
import Derived.Lib.Bytealg
import Derived.Laws.Externs
namespace Go.V
open Go.Proofs
set_option maxRecDepth 100000

theorem MK {v : Value} {cs : List Value} {w : World} {O : Ab} {x : List UInt8} (h : C_ .str v cs) (hr : Rep w O .str .z x cs Ab.none) : v = .string ⟨x.toArray⟩ := by
  have h1 : cs = [v] := h
  have h2 : cs = [.string ⟨x.toArray⟩] := hr.1
  rw [h1] at h2
  injection h2

theorem UV {k : IntKind} {v : Value} {cs : List Value} {w : World} {O : Ab} {x : Int} (h : C_ (.int k) v cs) (hr : Rep w O (.int k) .z x cs Ab.none) : v = .int k x := by
  have h1 : cs = [v] := h
  have h2 : cs = [.int k x] := hr.1
  rw [h1] at h2
  injection h2

theorem UW {w : World} {O : Ab} (n : Int) : Bc w O [(.int .i64, .z)] [] ((n, ()) : CB [.int .i64]) [.int .i64 n] :=
  ⟨.int .i64 n, [], [.int .i64 n], rfl, rfl, ⟨rfl, fun _ h => h⟩, rfl⟩
theorem jH {w : World} {O : Ab} (l : List UInt8) : Bc w O [(.str, .z)] [] ((l, ()) : CB [.str]) [.string ⟨l.toArray⟩] :=
  ⟨.string ⟨l.toArray⟩, [], [.string ⟨l.toArray⟩], rfl, rfl, ⟨rfl, fun _ h => h⟩, rfl⟩

noncomputable def rK (a b : List UInt8) : Option (Int × Unit) := some (Lib.compareBytes a b, ())
noncomputable def rL : Av := ⟨[.ro .str, .ro .str], [(.int .i64, .z)], fun z => rK z.1 z.2.1⟩
theorem jI : Tg Tryz.prog 230 rL := by
  intro w z vs r h hr
  obtain ⟨v, vs', cs, rfl, hv, hrep, v2, vs2, cs2, rfl, hv2, hrep2, h3⟩ := h
  rw [show vs2 = [] from h3, MK hv hrep, MK hv2 hrep2]
  injection hr with hr
  subst hr
  refine ⟨[.int .i64 (Lib.compareBytes z.1 z.2.1)], ?_, UW _⟩
  rw [run_callFunc_extern Tryz.func230 (by kernel_rfl) (by kernel_rfl) (by kernel_rfl) (e := Extern.BytealgCompare.compare) (by kernel_rfl)]
  rw [Lib.run_compareString]
  rfl

noncomputable def oe (a : List UInt8) (c : Int) : Option (Int × Unit) := some (Lib.countByte a c.toNat.toUInt8, ())
noncomputable def rM : Av := ⟨[.ro .str, .ro (.int .u8)], [(.int .i64, .z)], fun z => oe z.1 z.2.1⟩
theorem jJ : Tg Tryz.prog 254 rM := by
  intro w z vs r h hr
  obtain ⟨v, vs', cs, rfl, hv, hrep, v2, vs2, cs2, rfl, hv2, hrep2, h3⟩ := h
  rw [show vs2 = [] from h3, MK hv hrep, UV hv2 hrep2]
  injection hr with hr
  subst hr
  refine ⟨[.int .i64 (Lib.countByte z.1 (Hc (k := .u8) z.2.1).toNat.toUInt8)], ?_, UW _⟩
  rw [run_callFunc_extern Tryz.func254 (by kernel_rfl) (by kernel_rfl) (by kernel_rfl) (e := Extern.BytealgCount.count) (by kernel_rfl)]
  exact (congrArg (fun m => Result.andThen m fun v w' => .ok (Next.value v) w') (Lib.run_countString (P := Tryz.prog) ⟨List.toArray z.1⟩ (Hc (k := .u8) z.2.1) w)).trans rfl

noncomputable def og (a : List UInt8) (c : Int) : Option (Int × Unit) := some (Lib.indexByte a c.toNat.toUInt8, ())
noncomputable def rN : Av := ⟨[.ro .str, .ro (.int .u8)], [(.int .i64, .z)], fun z => og z.1 z.2.1⟩
theorem jK : Tg Tryz.prog 263 rN := by
  intro w z vs r h hr
  obtain ⟨v, vs', cs, rfl, hv, hrep, v2, vs2, cs2, rfl, hv2, hrep2, h3⟩ := h
  rw [show vs2 = [] from h3, MK hv hrep, UV hv2 hrep2]
  injection hr with hr
  subst hr
  refine ⟨[.int .i64 (Lib.indexByte z.1 (Hc (k := .u8) z.2.1).toNat.toUInt8)], ?_, UW _⟩
  rw [run_callFunc_extern Tryz.func263 (by kernel_rfl) (by kernel_rfl) (by kernel_rfl) (e := Extern.BytealgIndexByte.indexByte) (by kernel_rfl)]
  exact (congrArg (fun m => Result.andThen m fun v w' => .ok (Next.value v) w') (Lib.run_indexByteString (P := Tryz.prog) ⟨List.toArray z.1⟩ (Hc (k := .u8) z.2.1) w)).trans rfl

end Go.V
