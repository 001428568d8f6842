/- What functions of the program compute, printed by a program of ours. No condition. -/
import Derived.Test.YtmegollghdmpfaaGreatDoorWF3
namespace Go.V
open Go.Proofs
noncomputable section
set_option maxRecDepth 100000
set_option linter.unusedVariables false
def F65_R2 (e0_0 : Int × List (D96) × Unit → Option (Int × List (D96) × Unit)) (rec : Int × Int × List (D96) × Unit → Option (Int × List (D96) × Unit)) (x2 : Int × Int × List (D96) × Unit) : Option (Int × List (D96) × Unit) :=
 (cond (decide (x2.2.1 < (((List.length x2.2.2.1) : Nat) : Int)))
 (gd (decide ((0 : Int) ≤ x2.2.1))
 (gd (decide (x2.2.1 < (((List.length x2.2.2.1) : Nat) : Int)))
 (Option.bind x2.2.2.1[(Int.toNat x2.2.1)]? fun y4 =>
 (Option.bind x2.2.2.1[(Int.toNat x2.2.1)]? fun y5 =>
 (Option.bind (F105 y5.1 x2.1) fun y6 =>
 (Option.bind x2.2.2.1[(Int.toNat x2.2.1)]? fun y7 =>
 (rec (y6.1, (IntKind.wrap IntKind.i64 (x2.2.1 + (1 : Int))), (List.set x2.2.2.1 (Int.toNat x2.2.1) (y6.2.1, y7.2)), ()))))))))
 (e0_0 (x2.1, x2.2.2.1, ())))
def F65 (a0 : List (D96)) (a1 : Int) : Option (Int × List (D96) × Unit) :=
 (iter (F65_R2
 (fun y8 =>
 (some (y8.1, (y8.2.1, ()))))) fuel (a1, (0 : Int), a0, ()))
def C65 : Fun := ⟨[(.io (.slice Y96) (.own (.pr (.own .z) .z))), (.ro (.int .i64))], [((.int .i64), .z)], fun z => F65 z.1 z.2.1⟩
def E65 : Env := ⟨20, tyTab tys, oneTab ones, fnTab [(105, C105)], false, [], [(2, [0, 1, 5], [4]), (4, [0, 1, 5], [4]), (5, [1], [4]), (100000, [1], [4]), (100001, [0, 1, 5], [4]), (99999, [4], [4])], none, [], []⟩
def L65 : List (LoopS (Int × List (D96) × Unit)) := [⟨2, ⟨[(0, (.ref (.slice Y96) 4 [])), (1, (.pv (.int .i64))), (5, (.pv (.int .i64)))], [(4, (.data false (.slice Y96) (.own (.pr (.own .z) .z))))]⟩, fun κ => F65_R2 (fun y => κ.exit 0 (SSh.mk' ⟨[(1, (.pv (.int .i64)))], [(4, (.data false (.slice Y96) (.own (.pr (.own .z) .z))))]⟩ y))⟩]
theorem L65_2 : ∀ p : Option Src, RoundEq { E65 with pin := p } L65 L65[0] (nthLoop (codeOf Tryz.f65) 0) := fun p κ N x => by kernel_rfl
theorem C65_ok : IoOk Tryz.prog 65 C65 := tO E65 L65 [nthLoop (codeOf Tryz.f65) 0] Tryz.func65 ty_ok (.consIo C105_ok .nil) (fun p => (.cons L65[0] (by kernel_rfl) (L65_2 p) .nil))
def F33 (a0 : D23) (a1 : Int) : Option (Int × Unit) :=
 (Option.bind (F65 a0.1 a1) fun y0 =>
 (some (y0.1, ())))
def C33 : Fun := ⟨[(.tk Y23 (.pr (.own (.pr (.own .z) .z)) .z)), (.ro (.int .i64))], [((.int .i64), .z)], fun z => F33 z.1 z.2.1⟩
def E33 : Env := ⟨10, tyTab tys, oneTab ones, fnTab [(65, C65)], false, [], [(99999, [4], [])], none, [], []⟩
def L33 : List (LoopS (Int × Unit)) := []
theorem C33_ok : IoOk Tryz.prog 33 C33 := tK E33 L33 [] Tryz.func33 ty_ok (.consIo C65_ok .nil) .nil
def F34_R2 (e0_0 : Int × List (D72) × Unit → Option (Int × List (D72) × Unit)) (rec : Int × Int × List (D72) × Unit → Option (Int × List (D72) × Unit)) (x2 : Int × Int × List (D72) × Unit) : Option (Int × List (D72) × Unit) :=
 (cond (decide (x2.2.1 < (((List.length x2.2.2.1) : Nat) : Int)))
 (Option.bind (F36 x2.1) fun y4 =>
 (gd (decide ((0 : Int) ≤ x2.2.1))
 (gd (decide (x2.2.1 < (((List.length x2.2.2.1) : Nat) : Int)))
 (Option.bind x2.2.2.1[(Int.toNat x2.2.1)]? fun y5 =>
 (gd (decide ((0 : Int) ≤ x2.2.1))
 (gd (decide (x2.2.1 < (((List.length (List.set x2.2.2.1 (Int.toNat x2.2.1) (y4.1, y5.2))) : Nat) : Int)))
 (Option.bind (List.set x2.2.2.1 (Int.toNat x2.2.1) (y4.1, y5.2))[(Int.toNat x2.2.1)]? fun y6 =>
 (rec ((IntKind.wrap IntKind.i64 ((IntKind.wrap IntKind.i64 (x2.1 + (1 : Int))) + (1 : Int))), (IntKind.wrap IntKind.i64 (x2.2.1 + (1 : Int))), (List.set (List.set x2.2.2.1 (Int.toNat x2.2.1) (y4.1, y5.2)) (Int.toNat x2.2.1) (y6.1, (((Int.tmod (IntKind.wrap IntKind.i64 (x2.1 + (1 : Int))) (3 : Int)) == (0 : Int)), y6.2.2))), ())))))))))
 (e0_0 (x2.1, x2.2.2.1, ())))
def F34 (a0 : List (D72)) (a1 : Int) : Option (Int × List (D72) × Unit) :=
 (iter (F34_R2
 (fun y7 =>
 (some (y7.1, (y7.2.1, ()))))) fuel (a1, (0 : Int), a0, ()))
def C34 : Fun := ⟨[(.io (.slice Y72) (.own .z)), (.ro (.int .i64))], [((.int .i64), .z)], fun z => F34 z.1 z.2.1⟩
def E34 : Env := ⟨30, tyTab tys, oneTab ones, fnTab [(36, C36)], false, [], [(2, [0, 1, 5], [4]), (4, [0, 1, 5], [4]), (8, [1], [4]), (100000, [1], [4]), (100001, [0, 1, 5], [4]), (99999, [4], [4])], none, [], []⟩
def L34 : List (LoopS (Int × List (D72) × Unit)) := [⟨2, ⟨[(0, (.ref (.slice Y72) 4 [])), (1, (.pv (.int .i64))), (5, (.pv (.int .i64)))], [(4, (.data false (.slice Y72) (.own .z)))]⟩, fun κ => F34_R2 (fun y => κ.exit 0 (SSh.mk' ⟨[(1, (.pv (.int .i64)))], [(4, (.data false (.slice Y72) (.own .z)))]⟩ y))⟩]
theorem L34_2 : ∀ p : Option Src, RoundEq { E34 with pin := p } L34 L34[0] (nthLoop (codeOf Tryz.f34) 0) := fun p κ N x => by kernel_rfl
theorem C34_ok : IoOk Tryz.prog 34 C34 := tO E34 L34 [nthLoop (codeOf Tryz.f34) 0] Tryz.func34 ty_ok (.cons C36_ok .nil) (fun p => (.cons L34[0] (by kernel_rfl) (L34_2 p) .nil))
def F35_R2 (e0_0 : Int × List (List UInt8) × Unit → Option (Int × List (List UInt8) × Unit)) (rec : Int × Int × List (List UInt8) × Unit → Option (Int × List (List UInt8) × Unit)) (x2 : Int × Int × List (List UInt8) × Unit) : Option (Int × List (List UInt8) × Unit) :=
 (cond (decide (x2.2.1 < (((List.length x2.2.2.1) : Nat) : Int)))
 (Option.bind (F36 x2.1) fun y4 =>
 (gd (decide ((0 : Int) ≤ x2.2.1))
 (gd (decide (x2.2.1 < (((List.length x2.2.2.1) : Nat) : Int)))
 (Option.bind x2.2.2.1[(Int.toNat x2.2.1)]? fun y5 =>
 (rec ((IntKind.wrap IntKind.i64 (x2.1 + (1 : Int))), (IntKind.wrap IntKind.i64 (x2.2.1 + (1 : Int))), (List.set x2.2.2.1 (Int.toNat x2.2.1) y4.1), ()))))))
 (e0_0 (x2.1, x2.2.2.1, ())))
def F35 (a0 : List (List UInt8)) (a1 : Int) : Option (Int × List (List UInt8) × Unit) :=
 (iter (F35_R2
 (fun y6 =>
 (some (y6.1, (y6.2.1, ()))))) fuel (a1, (0 : Int), a0, ()))
def C35 : Fun := ⟨[(.io (.slice .str) (.own .z)), (.ro (.int .i64))], [((.int .i64), .z)], fun z => F35 z.1 z.2.1⟩
def E35 : Env := ⟨20, tyTab tys, oneTab ones, fnTab [(36, C36)], false, [], [(2, [0, 1, 5], [4]), (4, [0, 1, 5], [4]), (6, [1], [4]), (100000, [1], [4]), (100001, [0, 1, 5], [4]), (99999, [4], [4])], none, [], []⟩
def L35 : List (LoopS (Int × List (List UInt8) × Unit)) := [⟨2, ⟨[(0, (.ref (.slice .str) 4 [])), (1, (.pv (.int .i64))), (5, (.pv (.int .i64)))], [(4, (.data false (.slice .str) (.own .z)))]⟩, fun κ => F35_R2 (fun y => κ.exit 0 (SSh.mk' ⟨[(1, (.pv (.int .i64)))], [(4, (.data false (.slice .str) (.own .z)))]⟩ y))⟩]
theorem L35_2 : ∀ p : Option Src, RoundEq { E35 with pin := p } L35 L35[0] (nthLoop (codeOf Tryz.f35) 0) := fun p κ N x => by kernel_rfl
theorem C35_ok : IoOk Tryz.prog 35 C35 := tO E35 L35 [nthLoop (codeOf Tryz.f35) 0] Tryz.func35 ty_ok (.cons C36_ok .nil) (fun p => (.cons L35[0] (by kernel_rfl) (L35_2 p) .nil))
def F12 (a0 : D27) (a1 : Int) : Option (Int × Unit) :=
 (Option.bind (F33 a0.1 a1) fun y0 =>
 (Option.bind (F34 a0.2.1 y0.1) fun y1 =>
 (Option.bind (F35 a0.2.2.2.2.1 y1.1) fun y2 =>
 (some (y2.1, ())))))
def C12 : Fun := ⟨[(.tk Y27 (.pr (.pr (.own (.pr (.own .z) .z)) .z) (.pr (.own .z) (.pr .z (.pr .z (.pr (.own .z) .z)))))), (.ro (.int .i64))], [((.int .i64), .z)], fun z => F12 z.1 z.2.1⟩
def E12 : Env := ⟨18, tyTab tys, oneTab ones, fnTab [(33, C33), (34, C34), (35, C35)], false, [], [(99999, [4], [])], none, [], []⟩
def L12 : List (LoopS (Int × Unit)) := []
theorem C12_ok : IoOk Tryz.prog 12 C12 := tK E12 L12 [] Tryz.func12 ty_ok (.consIo C33_ok (.consIo C34_ok (.consIo C35_ok .nil))) .nil
def F13_R2 (e0_0 : Int × List (D52) × Unit → Option (Int × List (D52) × Unit)) (rec : Int × Int × List (D52) × Unit → Option (Int × List (D52) × Unit)) (x2 : Int × Int × List (D52) × Unit) : Option (Int × List (D52) × Unit) :=
 (cond (decide (x2.2.1 < (((List.length x2.2.2.1) : Nat) : Int)))
 (gd (decide ((0 : Int) ≤ x2.2.1))
 (gd (decide (x2.2.1 < (((List.length x2.2.2.1) : Nat) : Int)))
 (Option.bind x2.2.2.1[(Int.toNat x2.2.1)]? fun y4 =>
 (gd (decide ((0 : Int) ≤ x2.2.1))
 (gd (decide (x2.2.1 < (((List.length (List.set x2.2.2.1 (Int.toNat x2.2.1) (x2.1, y4.2))) : Nat) : Int)))
 (Option.bind (List.set x2.2.2.1 (Int.toNat x2.2.1) (x2.1, y4.2))[(Int.toNat x2.2.1)]? fun y5 =>
 (Option.bind (F36 (IntKind.wrap IntKind.i64 ((IntKind.wrap IntKind.i64 (x2.1 + (1 : Int))) + (1 : Int)))) fun y6 =>
 (gd (decide ((0 : Int) ≤ x2.2.1))
 (gd (decide (x2.2.1 < (((List.length (List.set (List.set x2.2.2.1 (Int.toNat x2.2.1) (x2.1, y4.2)) (Int.toNat x2.2.1) (y5.1, ((IntKind.wrap IntKind.i64 (x2.1 + (1 : Int))), y5.2.2)))) : Nat) : Int)))
 (Option.bind (List.set (List.set x2.2.2.1 (Int.toNat x2.2.1) (x2.1, y4.2)) (Int.toNat x2.2.1) (y5.1, ((IntKind.wrap IntKind.i64 (x2.1 + (1 : Int))), y5.2.2)))[(Int.toNat x2.2.1)]? fun y7 =>
 (rec ((IntKind.wrap IntKind.i64 ((IntKind.wrap IntKind.i64 ((IntKind.wrap IntKind.i64 (x2.1 + (1 : Int))) + (1 : Int))) + (1 : Int))), (IntKind.wrap IntKind.i64 (x2.2.1 + (1 : Int))), (List.set (List.set (List.set x2.2.2.1 (Int.toNat x2.2.1) (x2.1, y4.2)) (Int.toNat x2.2.1) (y5.1, ((IntKind.wrap IntKind.i64 (x2.1 + (1 : Int))), y5.2.2))) (Int.toNat x2.2.1) (y7.1, (y7.2.1, (y6.1, y7.2.2.2)))), ()))))))))))))
 (e0_0 (x2.1, x2.2.2.1, ())))
def F13 (a0 : List (D52)) (a1 : Int) : Option (Int × List (D52) × Unit) :=
 (iter (F13_R2
 (fun y8 =>
 (some (y8.1, (y8.2.1, ()))))) fuel (a1, (0 : Int), a0, ()))
def C13 : Fun := ⟨[(.io (.slice Y52) (.own .z)), (.ro (.int .i64))], [((.int .i64), .z)], fun z => F13 z.1 z.2.1⟩
def E13 : Env := ⟨35, tyTab tys, oneTab ones, fnTab [(36, C36)], false, [], [(2, [0, 1, 5], [4]), (4, [0, 1, 5], [4]), (10, [1], [4]), (100000, [1], [4]), (100001, [0, 1, 5], [4]), (99999, [4], [4])], none, [], []⟩
def L13 : List (LoopS (Int × List (D52) × Unit)) := [⟨2, ⟨[(0, (.ref (.slice Y52) 4 [])), (1, (.pv (.int .i64))), (5, (.pv (.int .i64)))], [(4, (.data false (.slice Y52) (.own .z)))]⟩, fun κ => F13_R2 (fun y => κ.exit 0 (SSh.mk' ⟨[(1, (.pv (.int .i64)))], [(4, (.data false (.slice Y52) (.own .z)))]⟩ y))⟩]
theorem L13_2 : ∀ p : Option Src, RoundEq { E13 with pin := p } L13 L13[0] (nthLoop (codeOf Tryz.f13) 0) := fun p κ N x => by kernel_rfl
theorem C13_ok : IoOk Tryz.prog 13 C13 := tO E13 L13 [nthLoop (codeOf Tryz.f13) 0] Tryz.func13 ty_ok (.cons C36_ok .nil) (fun p => (.cons L13[0] (by kernel_rfl) (L13_2 p) .nil))
def F14_R2 (e0_0 : Int × Unit → Option (Int × Unit)) (er_1 : Int × Unit → Option (Int × Unit)) (rec : List (D52) × Int × Int × Unit → Option (Int × Unit)) (x2 : List (D52) × Int × Int × Unit) : Option (Int × Unit) :=
 (cond (decide (x2.2.2.1 < (((List.length x2.1) : Nat) : Int)))
 (gd (decide ((0 : Int) ≤ x2.2.2.1))
 (Option.bind x2.1[(Int.toNat x2.2.2.1)]? fun y6 =>
 (cond (y6.1 != x2.2.1)
 (er_1 ((-(1 : Int)), ()))
 (gd (decide ((0 : Int) ≤ x2.2.2.1))
 (Option.bind x2.1[(Int.toNat x2.2.2.1)]? fun y8 =>
 (cond (y8.2.1 != (IntKind.wrap IntKind.i64 (x2.2.1 + (1 : Int))))
 (er_1 ((-(1 : Int)), ()))
 (gd (decide ((0 : Int) ≤ x2.2.2.1))
 (Option.bind x2.1[(Int.toNat x2.2.2.1)]? fun y10 =>
 (Option.bind (F36 (IntKind.wrap IntKind.i64 ((IntKind.wrap IntKind.i64 (x2.2.1 + (1 : Int))) + (1 : Int)))) fun y11 =>
 (cond (!(y10.2.2.1 == y11.1))
 (er_1 ((-(1 : Int)), ()))
 (rec (x2.1, (IntKind.wrap IntKind.i64 ((IntKind.wrap IntKind.i64 ((IntKind.wrap IntKind.i64 (x2.2.1 + (1 : Int))) + (1 : Int))) + (1 : Int))), (IntKind.wrap IntKind.i64 (x2.2.2.1 + (1 : Int))), ()))))))))))))
 (e0_0 (x2.2.1, ())))
def F14 (a0 : List (D52)) (a1 : Int) : Option (Int × Unit) :=
 (iter (F14_R2
 (fun y12 =>
 (some (y12.1, ())))
 (fun y13 =>
 (some (y13.1, ())))) fuel (a0, a1, (0 : Int), ()))
def C14 : Fun := ⟨[(.ro (.slice Y52)), (.ro (.int .i64))], [((.int .i64), .z)], fun z => F14 z.1 z.2.1⟩
def E14 : Env := ⟨41, tyTab tys, oneTab ones, fnTab [(36, C36)], false, [], [(2, [0, 1, 5], []), (3, [0, 1, 5], []), (4, [0, 1, 5], []), (6, [0, 1, 5], []), (9, [0, 1, 5], []), (12, [0, 1, 5], []), (13, [1], []), (100000, [1], []), (100001, [0, 1, 5], []), (99999, [4], [])], none, [], []⟩
def L14 : List (LoopS (Int × Unit)) := [⟨2, ⟨[(0, (.pv (.slice Y52))), (1, (.pv (.int .i64))), (5, (.pv (.int .i64)))], []⟩, fun κ => F14_R2 (fun y => κ.exit 0 (SSh.mk' ⟨[(1, (.pv (.int .i64)))], []⟩ y)) (fun y => κ.ret (SSh.mk' ⟨[(4, (.pv (.int .i64)))], []⟩ y))⟩]
theorem L14_2 : RoundEq E14 L14 L14[0] (nthLoop (codeOf Tryz.f14) 0) := fun κ N x => by kernel_rfl
theorem C14_ok : QuietOk Tryz.prog 14 C14 := tQ E14 L14 [nthLoop (codeOf Tryz.f14) 0] Tryz.func14 ty_ok (.cons C36_ok .nil) (.cons L14[0] (by kernel_rfl) L14_2 .nil)
def F3 (a0 : D27) (a1 : List (D52)) : Option (Bool × Unit) :=
 (Option.bind (F4 a0 (1048576 : Int)) fun y0 =>
 (cond (decide (y0.1 < (0 : Int)))
 (some (true, ()))
 (Option.bind (F5 a1 y0.1) fun y2 =>
 (cond (decide (y2.1 < (0 : Int)))
 (some (true, ()))
 (Option.bind (F7 a0) fun y4 =>
 (Option.bind (F8 a1) fun y5 =>
 (Option.bind (F6 y4.1 y5.1) fun y6 =>
 (Option.bind (F7 a0) fun y7 =>
 (Option.bind (F8 a1) fun y8 =>
 (Option.bind (F9 y7.1 y8.1) fun y9 =>
 (Option.bind (F10 y9.1 y6.1) fun y11 =>
 (cond (!y11.1)
 (some (false, ()))
 (cond (y9.2.1 != y6.2.1)
 (some (false, ()))
 (Option.bind (F7 a0) fun y13 =>
 (Option.bind (F11 y7.1 y13.1) fun y14 =>
 (cond (!y14.1)
 (some (false, ()))
 (Option.bind (F8 a1) fun y16 =>
 (Option.bind (F10 y8.1 y16.1) fun y17 =>
 (cond (!y17.1)
 (some (false, ()))
 (Option.bind (F12 y7.1 (1 : Int)) fun y18 =>
 (Option.bind (F13 y8.1 y18.1) fun y19 =>
 (cond (decide (y19.1 < (0 : Int)))
 (some (false, ()))
 (Option.bind (F10 y9.1 y6.1) fun y21 =>
 (cond (!y21.1)
 (some (false, ()))
 (cond (y9.2.1 != y6.2.1)
 (some (false, ()))
 (Option.bind (F13 y9.1 (1 : Int)) fun y22 =>
 (Option.bind (F14 y22.2.1 (1 : Int)) fun y23 =>
 (cond (decide (y23.1 < (0 : Int)))
 (some (false, ()))
 (cond (y23.1 != y22.1)
 (some (false, ()))
 (Option.bind (F7 a0) fun y26 =>
 (Option.bind (F8 a1) fun y27 =>
 (Option.bind (F9 y26.1 y27.1) fun y28 =>
 (Option.bind (F10 y28.1 y6.1) fun y30 =>
 (cond (!y30.1)
 (some (false, ()))
 (cond (y28.2.1 != y6.2.1)
 (some (false, ()))
 (Option.bind (F14 y22.2.1 (1 : Int)) fun y31 =>
 (cond (decide (y31.1 < (0 : Int)))
 (some (false, ()))
 (cond (y31.1 != y22.1)
 (some (false, ()))
 (some (true, ()))))))))))))))))))))))))))))))))))))))))
def C3 : Fun := ⟨[(.ro Y27), (.ro (.slice Y52))], [(.bool, .z)], fun z => F3 z.1 z.2.1⟩
def E3 : Env := ⟨119, tyTab tys, oneTab ones, fnTab [(4, C4), (5, C5), (6, C6), (7, C7), (8, C8), (9, C9), (10, C10), (11, C11), (12, C12), (13, C13), (14, C14)], false, [], [(5, [1, 2, 5], []), (8, [1, 2], []), (14, [1, 2, 6, 7, 8, 9, 10, 11], []), (16, [1, 2, 6, 7, 8, 9, 10, 11], []), (18, [1, 2, 6, 7, 8, 9, 10, 11], []), (23, [1, 2, 6, 7, 10], []), (29, [1, 2, 6, 7, 10, 13, 14], []), (31, [1, 2, 6, 7, 10, 13], []), (34, [10, 13], []), (38, [13, 14], []), (40, [], []), (99999, [4], [])], none, [], []⟩
def L3 : List (LoopS (Bool × Unit)) := []
theorem C3_ok : QuietOk Tryz.prog 3 C3 := tQ E3 L3 [] Tryz.func3 ty_ok (.cons C4_ok (.cons C5_ok (.consFr C6_ok (.consFr C7_ok (.consFr C8_ok (.consFr C9_ok (.cons C10_ok (.cons C11_ok (.consIo C12_ok (.consIo C13_ok (.cons C14_ok .nil))))))))))) .nil
end
end Go.V
