/- What functions of the program compute, printed by a program of ours. No condition. -/
import Derived.Test.YtkffanggiblcjaaGreatDoorWF3
namespace Go.V
open Go.Proofs
set_option maxRecDepth 100000
set_option linter.unusedVariables false
noncomputable def F61 (a0 : D44) (a1 : D44) : Option (Bool × Unit) :=
 (Option.bind (F116 a0.1 a1.1) fun y1 =>
 (cond (!y1.1)
 (some (false, ()))
 (some (true, ()))))
noncomputable def C61 : Fun := ⟨[(.ro Y44), (.ro Y44)], [(.bool, .z)], fun z => F61 z.1 z.2.1⟩
noncomputable def E61 : Env := ⟨11, tyTab tys, oneTab ones, fnTab [(116, C116)], false, [], [(3, [], []), (99999, [4], [])], none, [], []⟩
noncomputable def L61 : List (LoopS (Bool × Unit)) := []
theorem C61_ok : QuietOk Tryz.prog 61 C61 := tQ E61 L61 [] Tryz.func61 ty_ok (.cons C116_ok .nil) .nil
noncomputable def F87 (a0 : D103) (a1 : D103) : Option (Bool × Unit) :=
 (cond (!(a0.1 == a1.1))
 (some (false, ()))
 (Option.bind (F61 a0.2.1 a1.2.1) fun y2 =>
 (cond (!y2.1)
 (some (false, ()))
 (some (true, ())))))
noncomputable def C87 : Fun := ⟨[(.ro Y103), (.ro Y103)], [(.bool, .z)], fun z => F87 z.1 z.2.1⟩
noncomputable def E87 : Env := ⟨16, tyTab tys, oneTab ones, fnTab [(61, C61)], false, [], [(3, [2, 3], []), (5, [], []), (99999, [4], [])], none, [], []⟩
noncomputable def L87 : List (LoopS (Bool × Unit)) := []
theorem C87_ok : QuietOk Tryz.prog 87 C87 := tQ E87 L87 [] Tryz.func87 ty_ok (.cons C61_ok .nil) .nil
noncomputable def F40_R4 (e0_0 : Unit → Option (Bool × Unit)) (er_1 : Bool × Unit → Option (Bool × Unit)) (rec : List (D103) × List (D103) × Int × Unit → Option (Bool × Unit)) (x3 : List (D103) × List (D103) × Int × Unit) : Option (Bool × Unit) :=
 (cond (decide (x3.2.2.1 < (((List.length x3.1) : Nat) : Int)))
 (gd (decide ((0 : Int) ≤ x3.2.2.1))
 (Option.bind x3.1[(Int.toNat x3.2.2.1)]? fun y6 =>
 (gd (decide ((0 : Int) ≤ x3.2.2.1))
 (Option.bind x3.2.1[(Int.toNat x3.2.2.1)]? fun y7 =>
 (Option.bind (F87 y6 y7) fun y8 =>
 (cond (!y8.1)
 (er_1 (false, ()))
 (rec (x3.1, x3.2.1, (IntKind.wrap IntKind.i64 (x3.2.2.1 + (1 : Int))), ()))))))))
 (e0_0 (())))
noncomputable def F40 (a0 : List (D103)) (a1 : List (D103)) : Option (Bool × Unit) :=
 (cond ((((List.length a0) : Nat) : Int) != (((List.length a1) : Nat) : Int))
 (some (false, ()))
 (iter (F40_R4
 (fun y9 =>
 (some (true, ())))
 (fun y10 =>
 (some (y10.1, ())))) fuel (a0, a1, (0 : Int), ())))
noncomputable def C40 : Fun := ⟨[(.ro (.slice Y103)), (.ro (.slice Y103))], [(.bool, .z)], fun z => F40 z.1 z.2.1⟩
noncomputable def E40 : Env := ⟨27, tyTab tys, oneTab ones, fnTab [(87, C87)], false, [], [(3, [0, 1], []), (4, [0, 1, 5], []), (5, [0, 1, 5], []), (6, [0, 1, 5], []), (8, [], []), (100000, [], []), (100001, [0, 1, 5], []), (99999, [4], [])], none, [], []⟩
noncomputable def L40 : List (LoopS (Bool × Unit)) := [⟨4, ⟨[(0, (.pv (.slice Y103))), (1, (.pv (.slice Y103))), (5, (.pv (.int .i64)))], []⟩, fun κ => F40_R4 (fun y => κ.exit 0 (SSh.mk' ⟨[], []⟩ y)) (fun y => κ.ret (SSh.mk' ⟨[(4, (.pv .bool))], []⟩ y))⟩]
theorem L40_4 : RoundEq E40 L40 L40[0] (nthLoop (codeOf Tryz.f40) 0) := fun κ N x => by kernel_rfl
theorem C40_ok : QuietOk Tryz.prog 40 C40 := tQ E40 L40 [nthLoop (codeOf Tryz.f40) 0] Tryz.func40 ty_ok (.cons C87_ok .nil) (.cons L40[0] (by kernel_rfl) L40_4 .nil)
noncomputable def F133 (a0 : D106) (a1 : D106) : Option (Bool × Unit) :=
 (cond (!(a0.1 == a1.1))
 (some (false, ()))
 (cond (a0.2.1 != a1.2.1)
 (some (false, ()))
 (cond (!(a0.2.2.1 == a1.2.2.1))
 (some (false, ()))
 (Option.bind (F60 a0.2.2.2.1 a1.2.2.2.1) fun y4 =>
 (cond (!y4.1)
 (some (false, ()))
 (some (true, ())))))))
noncomputable def C133 : Fun := ⟨[(.ro Y106), (.ro Y106)], [(.bool, .z)], fun z => F133 z.1 z.2.1⟩
noncomputable def E133 : Env := ⟨26, tyTab tys, oneTab ones, fnTab [(60, C60)], false, [], [(3, [2, 3], []), (5, [2, 3], []), (7, [2, 3], []), (9, [], []), (99999, [4], [])], none, [], []⟩
noncomputable def L133 : List (LoopS (Bool × Unit)) := []
theorem C133_ok : QuietOk Tryz.prog 133 C133 := tQ E133 L133 [] Tryz.func133 ty_ok (.cons C60_ok .nil) .nil
noncomputable def F88 (a0 : D108) (a1 : D108) : Option (Bool × Unit) :=
 (Option.bind (F133 a0.1 a1.1) fun y1 =>
 (cond (!y1.1)
 (some (false, ()))
 (Option.bind (F60 a0.2.1 a1.2.1) fun y3 =>
 (cond (!y3.1)
 (some (false, ()))
 (cond (!(a0.2.2.1 == a1.2.2.1))
 (some (false, ()))
 (some (true, ())))))))
noncomputable def C88 : Fun := ⟨[(.ro Y108), (.ro Y108)], [(.bool, .z)], fun z => F88 z.1 z.2.1⟩
noncomputable def E88 : Env := ⟨22, tyTab tys, oneTab ones, fnTab [(60, C60), (133, C133)], false, [], [(3, [2, 3], []), (5, [2, 3], []), (7, [], []), (99999, [4], [])], none, [], []⟩
noncomputable def L88 : List (LoopS (Bool × Unit)) := []
theorem C88_ok : QuietOk Tryz.prog 88 C88 := tQ E88 L88 [] Tryz.func88 ty_ok (.cons C60_ok (.cons C133_ok .nil)) .nil
noncomputable def F41_R4 (e0_0 : Unit → Option (Bool × Unit)) (er_1 : Bool × Unit → Option (Bool × Unit)) (rec : List (D108) × List (D108) × Int × Unit → Option (Bool × Unit)) (x3 : List (D108) × List (D108) × Int × Unit) : Option (Bool × Unit) :=
 (cond (decide (x3.2.2.1 < (((List.length x3.1) : Nat) : Int)))
 (gd (decide ((0 : Int) ≤ x3.2.2.1))
 (Option.bind x3.1[(Int.toNat x3.2.2.1)]? fun y6 =>
 (gd (decide ((0 : Int) ≤ x3.2.2.1))
 (Option.bind x3.2.1[(Int.toNat x3.2.2.1)]? fun y7 =>
 (Option.bind (F88 y6 y7) fun y8 =>
 (cond (!y8.1)
 (er_1 (false, ()))
 (rec (x3.1, x3.2.1, (IntKind.wrap IntKind.i64 (x3.2.2.1 + (1 : Int))), ()))))))))
 (e0_0 (())))
noncomputable def F41 (a0 : List (D108)) (a1 : List (D108)) : Option (Bool × Unit) :=
 (cond ((((List.length a0) : Nat) : Int) != (((List.length a1) : Nat) : Int))
 (some (false, ()))
 (iter (F41_R4
 (fun y9 =>
 (some (true, ())))
 (fun y10 =>
 (some (y10.1, ())))) fuel (a0, a1, (0 : Int), ())))
noncomputable def C41 : Fun := ⟨[(.ro (.slice Y108)), (.ro (.slice Y108))], [(.bool, .z)], fun z => F41 z.1 z.2.1⟩
noncomputable def E41 : Env := ⟨27, tyTab tys, oneTab ones, fnTab [(88, C88)], false, [], [(3, [0, 1], []), (4, [0, 1, 5], []), (5, [0, 1, 5], []), (6, [0, 1, 5], []), (8, [], []), (100000, [], []), (100001, [0, 1, 5], []), (99999, [4], [])], none, [], []⟩
noncomputable def L41 : List (LoopS (Bool × Unit)) := [⟨4, ⟨[(0, (.pv (.slice Y108))), (1, (.pv (.slice Y108))), (5, (.pv (.int .i64)))], []⟩, fun κ => F41_R4 (fun y => κ.exit 0 (SSh.mk' ⟨[], []⟩ y)) (fun y => κ.ret (SSh.mk' ⟨[(4, (.pv .bool))], []⟩ y))⟩]
theorem L41_4 : RoundEq E41 L41 L41[0] (nthLoop (codeOf Tryz.f41) 0) := fun κ N x => by kernel_rfl
theorem C41_ok : QuietOk Tryz.prog 41 C41 := tQ E41 L41 [nthLoop (codeOf Tryz.f41) 0] Tryz.func41 ty_ok (.cons C88_ok .nil) (.cons L41[0] (by kernel_rfl) L41_4 .nil)
noncomputable def F12 (a0 : D25) (a1 : D25) : Option (Bool × Unit) :=
 (cond (a0.1 != a1.1)
 (some (false, ()))
 (cond (a0.2.1 != a1.2.1)
 (some (false, ()))
 (Option.bind (F40 a0.2.2.1 a1.2.2.1) fun y3 =>
 (cond (!y3.1)
 (some (false, ()))
 (Option.bind (F41 a0.2.2.2.1 a1.2.2.2.1) fun y5 =>
 (cond (!y5.1)
 (some (false, ()))
 (cond (!(a0.2.2.2.2.1 == a1.2.2.2.2.1))
 (some (false, ()))
 (cond (!(a0.2.2.2.2.2.1 == a1.2.2.2.2.2.1))
 (some (false, ()))
 (some (true, ()))))))))))
noncomputable def C12 : Fun := ⟨[(.ro Y25), (.ro Y25)], [(.bool, .z)], fun z => F12 z.1 z.2.1⟩
noncomputable def E12 : Env := ⟨37, tyTab tys, oneTab ones, fnTab [(40, C40), (41, C41)], false, [], [(3, [2, 3], []), (5, [2, 3], []), (7, [2, 3], []), (9, [2, 3], []), (11, [2, 3], []), (13, [], []), (99999, [4], [])], none, [], []⟩
noncomputable def L12 : List (LoopS (Bool × Unit)) := []
theorem C12_ok : QuietOk Tryz.prog 12 C12 := tQ E12 L12 [] Tryz.func12 ty_ok (.cons C40_ok (.cons C41_ok .nil)) .nil
noncomputable def F11_R4 (e0_0 : Unit → Option (Bool × Unit)) (er_1 : Bool × Unit → Option (Bool × Unit)) (rec : List (D25) × List (D25) × Int × Unit → Option (Bool × Unit)) (x3 : List (D25) × List (D25) × Int × Unit) : Option (Bool × Unit) :=
 (cond (decide (x3.2.2.1 < (((List.length x3.1) : Nat) : Int)))
 (gd (decide ((0 : Int) ≤ x3.2.2.1))
 (Option.bind x3.1[(Int.toNat x3.2.2.1)]? fun y6 =>
 (gd (decide ((0 : Int) ≤ x3.2.2.1))
 (Option.bind x3.2.1[(Int.toNat x3.2.2.1)]? fun y7 =>
 (Option.bind (F12 y6 y7) fun y8 =>
 (cond (!y8.1)
 (er_1 (false, ()))
 (rec (x3.1, x3.2.1, (IntKind.wrap IntKind.i64 (x3.2.2.1 + (1 : Int))), ()))))))))
 (e0_0 (())))
noncomputable def F11 (a0 : List (D25)) (a1 : List (D25)) : Option (Bool × Unit) :=
 (cond ((((List.length a0) : Nat) : Int) != (((List.length a1) : Nat) : Int))
 (some (false, ()))
 (iter (F11_R4
 (fun y9 =>
 (some (true, ())))
 (fun y10 =>
 (some (y10.1, ())))) fuel (a0, a1, (0 : Int), ())))
noncomputable def C11 : Fun := ⟨[(.ro (.slice Y25)), (.ro (.slice Y25))], [(.bool, .z)], fun z => F11 z.1 z.2.1⟩
noncomputable def E11 : Env := ⟨27, tyTab tys, oneTab ones, fnTab [(12, C12)], false, [], [(3, [0, 1], []), (4, [0, 1, 5], []), (5, [0, 1, 5], []), (6, [0, 1, 5], []), (8, [], []), (100000, [], []), (100001, [0, 1, 5], []), (99999, [4], [])], none, [], []⟩
noncomputable def L11 : List (LoopS (Bool × Unit)) := [⟨4, ⟨[(0, (.pv (.slice Y25))), (1, (.pv (.slice Y25))), (5, (.pv (.int .i64)))], []⟩, fun κ => F11_R4 (fun y => κ.exit 0 (SSh.mk' ⟨[], []⟩ y)) (fun y => κ.ret (SSh.mk' ⟨[(4, (.pv .bool))], []⟩ y))⟩]
theorem L11_4 : RoundEq E11 L11 L11[0] (nthLoop (codeOf Tryz.f11) 0) := fun κ N x => by kernel_rfl
theorem C11_ok : QuietOk Tryz.prog 11 C11 := tQ E11 L11 [nthLoop (codeOf Tryz.f11) 0] Tryz.func11 ty_ok (.cons C12_ok .nil) (.cons L11[0] (by kernel_rfl) L11_4 .nil)
noncomputable def F67_R4 (e0_0 : List UInt8 × Unit → Option (List UInt8 × Unit)) (rec : Int × List UInt8 × Unit → Option (List UInt8 × Unit)) (x3 : Int × List UInt8 × Unit) : Option (List UInt8 × Unit) :=
 (cond (decide (x3.1 > (0 : Int)))
 (gd (decide (((List.length (List.map (fun (v8 : Int) => (UInt8.ofNat (Int.toNat v8))) [(IntKind.wrap IntKind.u8 (IntKind.wrap IntKind.i64 ((48 : Int) + (Int.tmod x3.1 (10 : Int)))))])) + (List.length x3.2.1)) ≤ 9223372036854775807))
 (rec ((IntKind.wrap IntKind.i64 (Int.tdiv x3.1 (10 : Int))), ((List.map (fun (v8 : Int) => (UInt8.ofNat (Int.toNat v8))) [(IntKind.wrap IntKind.u8 (IntKind.wrap IntKind.i64 ((48 : Int) + (Int.tmod x3.1 (10 : Int)))))]) ++ x3.2.1), ())))
 (e0_0 (x3.2.1, ())))
noncomputable def F67 (a0 : Int) : Option (List UInt8 × Unit) :=
 (cond (decide (a0 ≤ (0 : Int)))
 (some ([(109 : UInt8), (48 : UInt8)], ()))
 (iter (F67_R4
 (fun y5 =>
 (gd (decide (((List.length ([(109 : UInt8)] : List UInt8)) + (List.length y5.1)) ≤ 9223372036854775807))
 (some (([(109 : UInt8)] ++ y5.1), ()))))) fuel (a0, [], ())))
noncomputable def C67 : Fun := ⟨[(.ro (.int .i64))], [(.str, .z)], fun z => F67 z.1⟩
noncomputable def E67 : Env := ⟨20, tyTab tys, oneTab ones, fnTab [], false, [], [(3, [0], []), (4, [0, 3], []), (5, [0, 3], []), (7, [3], []), (100000, [3], []), (100001, [0, 3], []), (99999, [2], [])], none, [], []⟩
noncomputable def L67 : List (LoopS (List UInt8 × Unit)) := [⟨4, ⟨[(0, (.pv (.int .i64))), (3, (.pv .str))], []⟩, fun κ => F67_R4 (fun y => κ.exit 0 (SSh.mk' ⟨[(3, (.pv .str))], []⟩ y))⟩]
theorem L67_4 : RoundEq E67 L67 L67[0] (nthLoop (codeOf Tryz.f67) 0) := fun κ N x => by kernel_rfl
theorem C67_ok : QuietOk Tryz.prog 67 C67 := tQ E67 L67 [nthLoop (codeOf Tryz.f67) 0] Tryz.func67 ty_ok .nil (.cons L67[0] (by kernel_rfl) L67_4 .nil)
noncomputable def F134_R2 (e0_0 : Int × List (D170) × Unit → Option (Int × List (D170) × Unit)) (rec : Int × Int × List (D170) × Unit → Option (Int × List (D170) × Unit)) (x2 : Int × Int × List (D170) × Unit) : Option (Int × List (D170) × Unit) :=
 (cond (decide (x2.2.1 < (((List.length x2.2.2.1) : Nat) : Int)))
 (gd (decide ((0 : Int) ≤ x2.2.1))
 (gd (decide (x2.2.1 < (((List.length x2.2.2.1) : Nat) : Int)))
 (Option.bind x2.2.2.1[(Int.toNat x2.2.1)]? fun y4 =>
 (Option.bind (F67 (IntKind.wrap IntKind.i64 (x2.1 + (1 : Int)))) fun y5 =>
 (gd (decide ((0 : Int) ≤ x2.2.1))
 (gd (decide (x2.2.1 < (((List.length (List.set x2.2.2.1 (Int.toNat x2.2.1) (x2.1, y4.2))) : Nat) : Int)))
 (Option.bind (List.set x2.2.2.1 (Int.toNat x2.2.1) (x2.1, y4.2))[(Int.toNat x2.2.1)]? fun y6 =>
 (gd (decide ((0 : Int) ≤ x2.2.1))
 (gd (decide (x2.2.1 < (((List.length (List.set (List.set x2.2.2.1 (Int.toNat x2.2.1) (x2.1, y4.2)) (Int.toNat x2.2.1) (y6.1, (y5.1, y6.2.2)))) : Nat) : Int)))
 (Option.bind (List.set (List.set x2.2.2.1 (Int.toNat x2.2.1) (x2.1, y4.2)) (Int.toNat x2.2.1) (y6.1, (y5.1, y6.2.2)))[(Int.toNat x2.2.1)]? fun y7 =>
 (gd (decide ((0 : Int) ≤ x2.2.1))
 (gd (decide (x2.2.1 < (((List.length (List.set (List.set (List.set x2.2.2.1 (Int.toNat x2.2.1) (x2.1, y4.2)) (Int.toNat x2.2.1) (y6.1, (y5.1, y6.2.2))) (Int.toNat x2.2.1) (y7.1, (y7.2.1, (((IntKind.wrap IntKind.i64 ((IntKind.wrap IntKind.i64 (x2.1 + (1 : Int))) + (1 : Int))), y7.2.2.1.2), y7.2.2.2))))) : Nat) : Int)))
 (Option.bind (List.set (List.set (List.set x2.2.2.1 (Int.toNat x2.2.1) (x2.1, y4.2)) (Int.toNat x2.2.1) (y6.1, (y5.1, y6.2.2))) (Int.toNat x2.2.1) (y7.1, (y7.2.1, (((IntKind.wrap IntKind.i64 ((IntKind.wrap IntKind.i64 (x2.1 + (1 : Int))) + (1 : Int))), y7.2.2.1.2), y7.2.2.2))))[(Int.toNat x2.2.1)]? fun y8 =>
 (Option.bind (F67 (IntKind.wrap IntKind.i64 ((IntKind.wrap IntKind.i64 ((IntKind.wrap IntKind.i64 ((IntKind.wrap IntKind.i64 (x2.1 + (1 : Int))) + (1 : Int))) + (1 : Int))) + (1 : Int)))) fun y9 =>
 (gd (decide ((0 : Int) ≤ x2.2.1))
 (gd (decide (x2.2.1 < (((List.length (List.set (List.set (List.set (List.set x2.2.2.1 (Int.toNat x2.2.1) (x2.1, y4.2)) (Int.toNat x2.2.1) (y6.1, (y5.1, y6.2.2))) (Int.toNat x2.2.1) (y7.1, (y7.2.1, (((IntKind.wrap IntKind.i64 ((IntKind.wrap IntKind.i64 (x2.1 + (1 : Int))) + (1 : Int))), y7.2.2.1.2), y7.2.2.2)))) (Int.toNat x2.2.1) (y8.1, (y8.2.1, ((y8.2.2.1.1, ((IntKind.wrap IntKind.i64 ((IntKind.wrap IntKind.i64 ((IntKind.wrap IntKind.i64 (x2.1 + (1 : Int))) + (1 : Int))) + (1 : Int))), y8.2.2.1.2.2)), y8.2.2.2))))) : Nat) : Int)))
 (Option.bind (List.set (List.set (List.set (List.set x2.2.2.1 (Int.toNat x2.2.1) (x2.1, y4.2)) (Int.toNat x2.2.1) (y6.1, (y5.1, y6.2.2))) (Int.toNat x2.2.1) (y7.1, (y7.2.1, (((IntKind.wrap IntKind.i64 ((IntKind.wrap IntKind.i64 (x2.1 + (1 : Int))) + (1 : Int))), y7.2.2.1.2), y7.2.2.2)))) (Int.toNat x2.2.1) (y8.1, (y8.2.1, ((y8.2.2.1.1, ((IntKind.wrap IntKind.i64 ((IntKind.wrap IntKind.i64 ((IntKind.wrap IntKind.i64 (x2.1 + (1 : Int))) + (1 : Int))) + (1 : Int))), y8.2.2.1.2.2)), y8.2.2.2))))[(Int.toNat x2.2.1)]? fun y10 =>
 (rec ((IntKind.wrap IntKind.i64 ((IntKind.wrap IntKind.i64 ((IntKind.wrap IntKind.i64 ((IntKind.wrap IntKind.i64 ((IntKind.wrap IntKind.i64 (x2.1 + (1 : Int))) + (1 : Int))) + (1 : Int))) + (1 : Int))) + (1 : Int))), (IntKind.wrap IntKind.i64 (x2.2.1 + (1 : Int))), (List.set (List.set (List.set (List.set (List.set x2.2.2.1 (Int.toNat x2.2.1) (x2.1, y4.2)) (Int.toNat x2.2.1) (y6.1, (y5.1, y6.2.2))) (Int.toNat x2.2.1) (y7.1, (y7.2.1, (((IntKind.wrap IntKind.i64 ((IntKind.wrap IntKind.i64 (x2.1 + (1 : Int))) + (1 : Int))), y7.2.2.1.2), y7.2.2.2)))) (Int.toNat x2.2.1) (y8.1, (y8.2.1, ((y8.2.2.1.1, ((IntKind.wrap IntKind.i64 ((IntKind.wrap IntKind.i64 ((IntKind.wrap IntKind.i64 (x2.1 + (1 : Int))) + (1 : Int))) + (1 : Int))), y8.2.2.1.2.2)), y8.2.2.2)))) (Int.toNat x2.2.1) (y10.1, (y10.2.1, ((y10.2.2.1.1, (y10.2.2.1.2.1, (y9.1, y10.2.2.1.2.2.2))), y10.2.2.2)))), ())))))))))))))))))))
 (e0_0 (x2.1, x2.2.2.1, ())))
noncomputable def F134 (a0 : List (D170)) (a1 : Int) : Option (Int × List (D170) × Unit) :=
 (iter (F134_R2
 (fun y11 =>
 (some (y11.1, (y11.2.1, ()))))) fuel (a1, (0 : Int), a0, ()))
noncomputable def C134 : Fun := ⟨[(.io (.slice Y170) (.own .z)), (.ro (.int .i64))], [((.int .i64), .z)], fun z => F134 z.1 z.2.1⟩
noncomputable def E134 : Env := ⟨53, tyTab tys, oneTab ones, fnTab [(67, C67)], false, [], [(2, [0, 1, 5], [4]), (4, [0, 1, 5], [4]), (14, [1], [4]), (100000, [1], [4]), (100001, [0, 1, 5], [4]), (99999, [4], [4])], none, [], []⟩
noncomputable def L134 : List (LoopS (Int × List (D170) × Unit)) := [⟨2, ⟨[(0, (.ref (.slice Y170) 4 [])), (1, (.pv (.int .i64))), (5, (.pv (.int .i64)))], [(4, (.data false (.slice Y170) (.own .z)))]⟩, fun κ => F134_R2 (fun y => κ.exit 0 (SSh.mk' ⟨[(1, (.pv (.int .i64)))], [(4, (.data false (.slice Y170) (.own .z)))]⟩ y))⟩]
theorem L134_2 : ∀ p : Option Src, RoundEq { E134 with pin := p } L134 L134[0] (nthLoop (codeOf Tryz.f134) 0) := fun p κ N x => by kernel_rfl
theorem C134_ok : IoOk Tryz.prog 134 C134 := tO E134 L134 [nthLoop (codeOf Tryz.f134) 0] Tryz.func134 ty_ok (.cons C67_ok .nil) (fun p => (.cons L134[0] (by kernel_rfl) (L134_2 p) .nil))
noncomputable def F89_R2 (e0_0 : Int × List (D157) × Unit → Option (Int × List (D157) × Unit)) (rec : Int × Int × List (D157) × Unit → Option (Int × List (D157) × Unit)) (x2 : Int × Int × List (D157) × Unit) : Option (Int × List (D157) × Unit) :=
 (cond (decide (x2.2.1 < (((List.length x2.2.2.1) : Nat) : Int)))
 (gd (decide ((0 : Int) ≤ x2.2.1))
 (gd (decide (x2.2.1 < (((List.length x2.2.2.1) : Nat) : Int)))
 (Option.bind x2.2.2.1[(Int.toNat x2.2.1)]? fun y4 =>
 (Option.bind x2.2.2.1[(Int.toNat x2.2.1)]? fun y5 =>
 (Option.bind (F134 y5.1 x2.1) fun y6 =>
 (Option.bind x2.2.2.1[(Int.toNat x2.2.1)]? fun y7 =>
 (rec (y6.1, (IntKind.wrap IntKind.i64 (x2.2.1 + (1 : Int))), (List.set x2.2.2.1 (Int.toNat x2.2.1) (y6.2.1, y7.2)), ()))))))))
 (e0_0 (x2.1, x2.2.2.1, ())))
noncomputable def F89 (a0 : List (D157)) (a1 : Int) : Option (Int × List (D157) × Unit) :=
 (iter (F89_R2
 (fun y8 =>
 (some (y8.1, (y8.2.1, ()))))) fuel (a1, (0 : Int), a0, ()))
noncomputable def C89 : Fun := ⟨[(.io (.slice Y157) (.own (.pr (.own .z) .z))), (.ro (.int .i64))], [((.int .i64), .z)], fun z => F89 z.1 z.2.1⟩
noncomputable def E89 : Env := ⟨20, tyTab tys, oneTab ones, fnTab [(134, C134)], false, [], [(2, [0, 1, 5], [4]), (4, [0, 1, 5], [4]), (5, [1], [4]), (100000, [1], [4]), (100001, [0, 1, 5], [4]), (99999, [4], [4])], none, [], []⟩
noncomputable def L89 : List (LoopS (Int × List (D157) × Unit)) := [⟨2, ⟨[(0, (.ref (.slice Y157) 4 [])), (1, (.pv (.int .i64))), (5, (.pv (.int .i64)))], [(4, (.data false (.slice Y157) (.own (.pr (.own .z) .z))))]⟩, fun κ => F89_R2 (fun y => κ.exit 0 (SSh.mk' ⟨[(1, (.pv (.int .i64)))], [(4, (.data false (.slice Y157) (.own (.pr (.own .z) .z))))]⟩ y))⟩]
theorem L89_2 : ∀ p : Option Src, RoundEq { E89 with pin := p } L89 L89[0] (nthLoop (codeOf Tryz.f89) 0) := fun p κ N x => by kernel_rfl
theorem C89_ok : IoOk Tryz.prog 89 C89 := tO E89 L89 [nthLoop (codeOf Tryz.f89) 0] Tryz.func89 ty_ok (.consIo C134_ok .nil) (fun p => (.cons L89[0] (by kernel_rfl) (L89_2 p) .nil))
noncomputable def F42_R2 (e0_0 : Int × List (D103) × Unit → Option (Int × List (D103) × Unit)) (rec : Int × Int × List (D103) × Unit → Option (Int × List (D103) × Unit)) (x2 : Int × Int × List (D103) × Unit) : Option (Int × List (D103) × Unit) :=
 (cond (decide (x2.2.1 < (((List.length x2.2.2.1) : Nat) : Int)))
 (Option.bind (F67 x2.1) fun y4 =>
 (gd (decide ((0 : Int) ≤ x2.2.1))
 (gd (decide (x2.2.1 < (((List.length x2.2.2.1) : Nat) : Int)))
 (Option.bind x2.2.2.1[(Int.toNat x2.2.1)]? fun y5 =>
 (gd (decide ((0 : Int) ≤ x2.2.1))
 (gd (decide (x2.2.1 < (((List.length (List.set x2.2.2.1 (Int.toNat x2.2.1) (y4.1, y5.2))) : Nat) : Int)))
 (Option.bind (List.set x2.2.2.1 (Int.toNat x2.2.1) (y4.1, y5.2))[(Int.toNat x2.2.1)]? fun y6 =>
 (Option.bind (List.set x2.2.2.1 (Int.toNat x2.2.1) (y4.1, y5.2))[(Int.toNat x2.2.1)]? fun y7 =>
 (Option.bind (F89 y7.2.1.1 (IntKind.wrap IntKind.i64 (x2.1 + (1 : Int)))) fun y8 =>
 (Option.bind (List.set x2.2.2.1 (Int.toNat x2.2.1) (y4.1, y5.2))[(Int.toNat x2.2.1)]? fun y9 =>
 (rec (y8.1, (IntKind.wrap IntKind.i64 (x2.2.1 + (1 : Int))), (List.set (List.set x2.2.2.1 (Int.toNat x2.2.1) (y4.1, y5.2)) (Int.toNat x2.2.1) (y9.1, ((y8.2.1, y9.2.1.2), y9.2.2))), ()))))))))))))
 (e0_0 (x2.1, x2.2.2.1, ())))
noncomputable def F42 (a0 : List (D103)) (a1 : Int) : Option (Int × List (D103) × Unit) :=
 (iter (F42_R2
 (fun y10 =>
 (some (y10.1, (y10.2.1, ()))))) fuel (a1, (0 : Int), a0, ()))
noncomputable def C42 : Fun := ⟨[(.io (.slice Y103) (.own (.pr .z (.pr (.pr (.own (.pr (.own .z) .z)) .z) .z)))), (.ro (.int .i64))], [((.int .i64), .z)], fun z => F42 z.1 z.2.1⟩
noncomputable def E42 : Env := ⟨29, tyTab tys, oneTab ones, fnTab [(67, C67), (89, C89)], false, [], [(2, [0, 1, 5], [4]), (4, [0, 1, 5], [4]), (7, [1], [4]), (100000, [1], [4]), (100001, [0, 1, 5], [4]), (99999, [4], [4])], none, [], []⟩
noncomputable def L42 : List (LoopS (Int × List (D103) × Unit)) := [⟨2, ⟨[(0, (.ref (.slice Y103) 4 [])), (1, (.pv (.int .i64))), (5, (.pv (.int .i64)))], [(4, (.data false (.slice Y103) (.own (.pr .z (.pr (.pr (.own (.pr (.own .z) .z)) .z) .z)))))]⟩, fun κ => F42_R2 (fun y => κ.exit 0 (SSh.mk' ⟨[(1, (.pv (.int .i64)))], [(4, (.data false (.slice Y103) (.own (.pr .z (.pr (.pr (.own (.pr (.own .z) .z)) .z) .z)))))]⟩ y))⟩]
theorem L42_2 : ∀ p : Option Src, RoundEq { E42 with pin := p } L42 L42[0] (nthLoop (codeOf Tryz.f42) 0) := fun p κ N x => by kernel_rfl
theorem C42_ok : IoOk Tryz.prog 42 C42 := tO E42 L42 [nthLoop (codeOf Tryz.f42) 0] Tryz.func42 ty_ok (.cons C67_ok (.consIo C89_ok .nil)) (fun p => (.cons L42[0] (by kernel_rfl) (L42_2 p) .nil))
noncomputable def F43_R2 (e0_0 : Int × List (D108) × Unit → Option (Int × List (D108) × Unit)) (rec : Int × Int × List (D108) × Unit → Option (Int × List (D108) × Unit)) (x2 : Int × Int × List (D108) × Unit) : Option (Int × List (D108) × Unit) :=
 (cond (decide (x2.2.1 < (((List.length x2.2.2.1) : Nat) : Int)))
 (Option.bind (F67 x2.1) fun y4 =>
 (gd (decide ((0 : Int) ≤ x2.2.1))
 (gd (decide (x2.2.1 < (((List.length x2.2.2.1) : Nat) : Int)))
 (Option.bind x2.2.2.1[(Int.toNat x2.2.1)]? fun y5 =>
 (gd (decide ((0 : Int) ≤ x2.2.1))
 (gd (decide (x2.2.1 < (((List.length (List.set x2.2.2.1 (Int.toNat x2.2.1) ((y4.1, y5.1.2), y5.2))) : Nat) : Int)))
 (Option.bind (List.set x2.2.2.1 (Int.toNat x2.2.1) ((y4.1, y5.1.2), y5.2))[(Int.toNat x2.2.1)]? fun y6 =>
 (gd (decide ((0 : Int) ≤ x2.2.1))
 (gd (decide (x2.2.1 < (((List.length (List.set (List.set x2.2.2.1 (Int.toNat x2.2.1) ((y4.1, y5.1.2), y5.2)) (Int.toNat x2.2.1) ((y6.1.1, ((IntKind.wrap IntKind.i64 (x2.1 + (1 : Int))), y6.1.2.2)), y6.2))) : Nat) : Int)))
 (Option.bind (List.set (List.set x2.2.2.1 (Int.toNat x2.2.1) ((y4.1, y5.1.2), y5.2)) (Int.toNat x2.2.1) ((y6.1.1, ((IntKind.wrap IntKind.i64 (x2.1 + (1 : Int))), y6.1.2.2)), y6.2))[(Int.toNat x2.2.1)]? fun y7 =>
 (gd (decide ((0 : Int) ≤ x2.2.1))
 (gd (decide (x2.2.1 < (((List.length (List.set (List.set (List.set x2.2.2.1 (Int.toNat x2.2.1) ((y4.1, y5.1.2), y5.2)) (Int.toNat x2.2.1) ((y6.1.1, ((IntKind.wrap IntKind.i64 (x2.1 + (1 : Int))), y6.1.2.2)), y6.2)) (Int.toNat x2.2.1) ((y7.1.1, (y7.1.2.1, (((Int.tmod (IntKind.wrap IntKind.i64 ((IntKind.wrap IntKind.i64 (x2.1 + (1 : Int))) + (1 : Int))) (3 : Int)) == (0 : Int)), y7.1.2.2.2))), y7.2))) : Nat) : Int)))
 (Option.bind (List.set (List.set (List.set x2.2.2.1 (Int.toNat x2.2.1) ((y4.1, y5.1.2), y5.2)) (Int.toNat x2.2.1) ((y6.1.1, ((IntKind.wrap IntKind.i64 (x2.1 + (1 : Int))), y6.1.2.2)), y6.2)) (Int.toNat x2.2.1) ((y7.1.1, (y7.1.2.1, (((Int.tmod (IntKind.wrap IntKind.i64 ((IntKind.wrap IntKind.i64 (x2.1 + (1 : Int))) + (1 : Int))) (3 : Int)) == (0 : Int)), y7.1.2.2.2))), y7.2))[(Int.toNat x2.2.1)]? fun y8 =>
 (gd (decide ((0 : Int) ≤ x2.2.1))
 (gd (decide (x2.2.1 < (((List.length (List.set (List.set (List.set (List.set x2.2.2.1 (Int.toNat x2.2.1) ((y4.1, y5.1.2), y5.2)) (Int.toNat x2.2.1) ((y6.1.1, ((IntKind.wrap IntKind.i64 (x2.1 + (1 : Int))), y6.1.2.2)), y6.2)) (Int.toNat x2.2.1) ((y7.1.1, (y7.1.2.1, (((Int.tmod (IntKind.wrap IntKind.i64 ((IntKind.wrap IntKind.i64 (x2.1 + (1 : Int))) + (1 : Int))) (3 : Int)) == (0 : Int)), y7.1.2.2.2))), y7.2)) (Int.toNat x2.2.1) ((y8.1.1, (y8.1.2.1, (y8.1.2.2.1, (((IntKind.wrap IntKind.i64 ((IntKind.wrap IntKind.i64 ((IntKind.wrap IntKind.i64 (x2.1 + (1 : Int))) + (1 : Int))) + (1 : Int))), y8.1.2.2.2.1.2), y8.1.2.2.2.2)))), y8.2))) : Nat) : Int)))
 (Option.bind (List.set (List.set (List.set (List.set x2.2.2.1 (Int.toNat x2.2.1) ((y4.1, y5.1.2), y5.2)) (Int.toNat x2.2.1) ((y6.1.1, ((IntKind.wrap IntKind.i64 (x2.1 + (1 : Int))), y6.1.2.2)), y6.2)) (Int.toNat x2.2.1) ((y7.1.1, (y7.1.2.1, (((Int.tmod (IntKind.wrap IntKind.i64 ((IntKind.wrap IntKind.i64 (x2.1 + (1 : Int))) + (1 : Int))) (3 : Int)) == (0 : Int)), y7.1.2.2.2))), y7.2)) (Int.toNat x2.2.1) ((y8.1.1, (y8.1.2.1, (y8.1.2.2.1, (((IntKind.wrap IntKind.i64 ((IntKind.wrap IntKind.i64 ((IntKind.wrap IntKind.i64 (x2.1 + (1 : Int))) + (1 : Int))) + (1 : Int))), y8.1.2.2.2.1.2), y8.1.2.2.2.2)))), y8.2))[(Int.toNat x2.2.1)]? fun y9 =>
 (Option.bind (F67 (IntKind.wrap IntKind.i64 ((IntKind.wrap IntKind.i64 ((IntKind.wrap IntKind.i64 ((IntKind.wrap IntKind.i64 ((IntKind.wrap IntKind.i64 (x2.1 + (1 : Int))) + (1 : Int))) + (1 : Int))) + (1 : Int))) + (1 : Int)))) fun y10 =>
 (gd (decide ((0 : Int) ≤ x2.2.1))
 (gd (decide (x2.2.1 < (((List.length (List.set (List.set (List.set (List.set (List.set x2.2.2.1 (Int.toNat x2.2.1) ((y4.1, y5.1.2), y5.2)) (Int.toNat x2.2.1) ((y6.1.1, ((IntKind.wrap IntKind.i64 (x2.1 + (1 : Int))), y6.1.2.2)), y6.2)) (Int.toNat x2.2.1) ((y7.1.1, (y7.1.2.1, (((Int.tmod (IntKind.wrap IntKind.i64 ((IntKind.wrap IntKind.i64 (x2.1 + (1 : Int))) + (1 : Int))) (3 : Int)) == (0 : Int)), y7.1.2.2.2))), y7.2)) (Int.toNat x2.2.1) ((y8.1.1, (y8.1.2.1, (y8.1.2.2.1, (((IntKind.wrap IntKind.i64 ((IntKind.wrap IntKind.i64 ((IntKind.wrap IntKind.i64 (x2.1 + (1 : Int))) + (1 : Int))) + (1 : Int))), y8.1.2.2.2.1.2), y8.1.2.2.2.2)))), y8.2)) (Int.toNat x2.2.1) ((y9.1.1, (y9.1.2.1, (y9.1.2.2.1, ((y9.1.2.2.2.1.1, ((IntKind.wrap IntKind.i64 ((IntKind.wrap IntKind.i64 ((IntKind.wrap IntKind.i64 ((IntKind.wrap IntKind.i64 (x2.1 + (1 : Int))) + (1 : Int))) + (1 : Int))) + (1 : Int))), y9.1.2.2.2.1.2.2)), y9.1.2.2.2.2)))), y9.2))) : Nat) : Int)))
 (Option.bind (List.set (List.set (List.set (List.set (List.set x2.2.2.1 (Int.toNat x2.2.1) ((y4.1, y5.1.2), y5.2)) (Int.toNat x2.2.1) ((y6.1.1, ((IntKind.wrap IntKind.i64 (x2.1 + (1 : Int))), y6.1.2.2)), y6.2)) (Int.toNat x2.2.1) ((y7.1.1, (y7.1.2.1, (((Int.tmod (IntKind.wrap IntKind.i64 ((IntKind.wrap IntKind.i64 (x2.1 + (1 : Int))) + (1 : Int))) (3 : Int)) == (0 : Int)), y7.1.2.2.2))), y7.2)) (Int.toNat x2.2.1) ((y8.1.1, (y8.1.2.1, (y8.1.2.2.1, (((IntKind.wrap IntKind.i64 ((IntKind.wrap IntKind.i64 ((IntKind.wrap IntKind.i64 (x2.1 + (1 : Int))) + (1 : Int))) + (1 : Int))), y8.1.2.2.2.1.2), y8.1.2.2.2.2)))), y8.2)) (Int.toNat x2.2.1) ((y9.1.1, (y9.1.2.1, (y9.1.2.2.1, ((y9.1.2.2.2.1.1, ((IntKind.wrap IntKind.i64 ((IntKind.wrap IntKind.i64 ((IntKind.wrap IntKind.i64 ((IntKind.wrap IntKind.i64 (x2.1 + (1 : Int))) + (1 : Int))) + (1 : Int))) + (1 : Int))), y9.1.2.2.2.1.2.2)), y9.1.2.2.2.2)))), y9.2))[(Int.toNat x2.2.1)]? fun y11 =>
 (gd (decide ((0 : Int) ≤ x2.2.1))
 (gd (decide (x2.2.1 < (((List.length (List.set (List.set (List.set (List.set (List.set (List.set x2.2.2.1 (Int.toNat x2.2.1) ((y4.1, y5.1.2), y5.2)) (Int.toNat x2.2.1) ((y6.1.1, ((IntKind.wrap IntKind.i64 (x2.1 + (1 : Int))), y6.1.2.2)), y6.2)) (Int.toNat x2.2.1) ((y7.1.1, (y7.1.2.1, (((Int.tmod (IntKind.wrap IntKind.i64 ((IntKind.wrap IntKind.i64 (x2.1 + (1 : Int))) + (1 : Int))) (3 : Int)) == (0 : Int)), y7.1.2.2.2))), y7.2)) (Int.toNat x2.2.1) ((y8.1.1, (y8.1.2.1, (y8.1.2.2.1, (((IntKind.wrap IntKind.i64 ((IntKind.wrap IntKind.i64 ((IntKind.wrap IntKind.i64 (x2.1 + (1 : Int))) + (1 : Int))) + (1 : Int))), y8.1.2.2.2.1.2), y8.1.2.2.2.2)))), y8.2)) (Int.toNat x2.2.1) ((y9.1.1, (y9.1.2.1, (y9.1.2.2.1, ((y9.1.2.2.2.1.1, ((IntKind.wrap IntKind.i64 ((IntKind.wrap IntKind.i64 ((IntKind.wrap IntKind.i64 ((IntKind.wrap IntKind.i64 (x2.1 + (1 : Int))) + (1 : Int))) + (1 : Int))) + (1 : Int))), y9.1.2.2.2.1.2.2)), y9.1.2.2.2.2)))), y9.2)) (Int.toNat x2.2.1) ((y11.1.1, (y11.1.2.1, (y11.1.2.2.1, ((y11.1.2.2.2.1.1, (y11.1.2.2.2.1.2.1, (y10.1, y11.1.2.2.2.1.2.2.2))), y11.1.2.2.2.2)))), y11.2))) : Nat) : Int)))
 (Option.bind (List.set (List.set (List.set (List.set (List.set (List.set x2.2.2.1 (Int.toNat x2.2.1) ((y4.1, y5.1.2), y5.2)) (Int.toNat x2.2.1) ((y6.1.1, ((IntKind.wrap IntKind.i64 (x2.1 + (1 : Int))), y6.1.2.2)), y6.2)) (Int.toNat x2.2.1) ((y7.1.1, (y7.1.2.1, (((Int.tmod (IntKind.wrap IntKind.i64 ((IntKind.wrap IntKind.i64 (x2.1 + (1 : Int))) + (1 : Int))) (3 : Int)) == (0 : Int)), y7.1.2.2.2))), y7.2)) (Int.toNat x2.2.1) ((y8.1.1, (y8.1.2.1, (y8.1.2.2.1, (((IntKind.wrap IntKind.i64 ((IntKind.wrap IntKind.i64 ((IntKind.wrap IntKind.i64 (x2.1 + (1 : Int))) + (1 : Int))) + (1 : Int))), y8.1.2.2.2.1.2), y8.1.2.2.2.2)))), y8.2)) (Int.toNat x2.2.1) ((y9.1.1, (y9.1.2.1, (y9.1.2.2.1, ((y9.1.2.2.2.1.1, ((IntKind.wrap IntKind.i64 ((IntKind.wrap IntKind.i64 ((IntKind.wrap IntKind.i64 ((IntKind.wrap IntKind.i64 (x2.1 + (1 : Int))) + (1 : Int))) + (1 : Int))) + (1 : Int))), y9.1.2.2.2.1.2.2)), y9.1.2.2.2.2)))), y9.2)) (Int.toNat x2.2.1) ((y11.1.1, (y11.1.2.1, (y11.1.2.2.1, ((y11.1.2.2.2.1.1, (y11.1.2.2.2.1.2.1, (y10.1, y11.1.2.2.2.1.2.2.2))), y11.1.2.2.2.2)))), y11.2))[(Int.toNat x2.2.1)]? fun y12 =>
 (gd (decide ((0 : Int) ≤ x2.2.1))
 (gd (decide (x2.2.1 < (((List.length (List.set (List.set (List.set (List.set (List.set (List.set (List.set x2.2.2.1 (Int.toNat x2.2.1) ((y4.1, y5.1.2), y5.2)) (Int.toNat x2.2.1) ((y6.1.1, ((IntKind.wrap IntKind.i64 (x2.1 + (1 : Int))), y6.1.2.2)), y6.2)) (Int.toNat x2.2.1) ((y7.1.1, (y7.1.2.1, (((Int.tmod (IntKind.wrap IntKind.i64 ((IntKind.wrap IntKind.i64 (x2.1 + (1 : Int))) + (1 : Int))) (3 : Int)) == (0 : Int)), y7.1.2.2.2))), y7.2)) (Int.toNat x2.2.1) ((y8.1.1, (y8.1.2.1, (y8.1.2.2.1, (((IntKind.wrap IntKind.i64 ((IntKind.wrap IntKind.i64 ((IntKind.wrap IntKind.i64 (x2.1 + (1 : Int))) + (1 : Int))) + (1 : Int))), y8.1.2.2.2.1.2), y8.1.2.2.2.2)))), y8.2)) (Int.toNat x2.2.1) ((y9.1.1, (y9.1.2.1, (y9.1.2.2.1, ((y9.1.2.2.2.1.1, ((IntKind.wrap IntKind.i64 ((IntKind.wrap IntKind.i64 ((IntKind.wrap IntKind.i64 ((IntKind.wrap IntKind.i64 (x2.1 + (1 : Int))) + (1 : Int))) + (1 : Int))) + (1 : Int))), y9.1.2.2.2.1.2.2)), y9.1.2.2.2.2)))), y9.2)) (Int.toNat x2.2.1) ((y11.1.1, (y11.1.2.1, (y11.1.2.2.1, ((y11.1.2.2.2.1.1, (y11.1.2.2.2.1.2.1, (y10.1, y11.1.2.2.2.1.2.2.2))), y11.1.2.2.2.2)))), y11.2)) (Int.toNat x2.2.1) (y12.1, (((IntKind.wrap IntKind.i64 ((IntKind.wrap IntKind.i64 ((IntKind.wrap IntKind.i64 ((IntKind.wrap IntKind.i64 ((IntKind.wrap IntKind.i64 ((IntKind.wrap IntKind.i64 (x2.1 + (1 : Int))) + (1 : Int))) + (1 : Int))) + (1 : Int))) + (1 : Int))) + (1 : Int))), y12.2.1.2), y12.2.2)))) : Nat) : Int)))
 (Option.bind (List.set (List.set (List.set (List.set (List.set (List.set (List.set x2.2.2.1 (Int.toNat x2.2.1) ((y4.1, y5.1.2), y5.2)) (Int.toNat x2.2.1) ((y6.1.1, ((IntKind.wrap IntKind.i64 (x2.1 + (1 : Int))), y6.1.2.2)), y6.2)) (Int.toNat x2.2.1) ((y7.1.1, (y7.1.2.1, (((Int.tmod (IntKind.wrap IntKind.i64 ((IntKind.wrap IntKind.i64 (x2.1 + (1 : Int))) + (1 : Int))) (3 : Int)) == (0 : Int)), y7.1.2.2.2))), y7.2)) (Int.toNat x2.2.1) ((y8.1.1, (y8.1.2.1, (y8.1.2.2.1, (((IntKind.wrap IntKind.i64 ((IntKind.wrap IntKind.i64 ((IntKind.wrap IntKind.i64 (x2.1 + (1 : Int))) + (1 : Int))) + (1 : Int))), y8.1.2.2.2.1.2), y8.1.2.2.2.2)))), y8.2)) (Int.toNat x2.2.1) ((y9.1.1, (y9.1.2.1, (y9.1.2.2.1, ((y9.1.2.2.2.1.1, ((IntKind.wrap IntKind.i64 ((IntKind.wrap IntKind.i64 ((IntKind.wrap IntKind.i64 ((IntKind.wrap IntKind.i64 (x2.1 + (1 : Int))) + (1 : Int))) + (1 : Int))) + (1 : Int))), y9.1.2.2.2.1.2.2)), y9.1.2.2.2.2)))), y9.2)) (Int.toNat x2.2.1) ((y11.1.1, (y11.1.2.1, (y11.1.2.2.1, ((y11.1.2.2.2.1.1, (y11.1.2.2.2.1.2.1, (y10.1, y11.1.2.2.2.1.2.2.2))), y11.1.2.2.2.2)))), y11.2)) (Int.toNat x2.2.1) (y12.1, (((IntKind.wrap IntKind.i64 ((IntKind.wrap IntKind.i64 ((IntKind.wrap IntKind.i64 ((IntKind.wrap IntKind.i64 ((IntKind.wrap IntKind.i64 ((IntKind.wrap IntKind.i64 (x2.1 + (1 : Int))) + (1 : Int))) + (1 : Int))) + (1 : Int))) + (1 : Int))) + (1 : Int))), y12.2.1.2), y12.2.2)))[(Int.toNat x2.2.1)]? fun y13 =>
 (Option.bind (F67 (IntKind.wrap IntKind.i64 ((IntKind.wrap IntKind.i64 ((IntKind.wrap IntKind.i64 ((IntKind.wrap IntKind.i64 ((IntKind.wrap IntKind.i64 ((IntKind.wrap IntKind.i64 ((IntKind.wrap IntKind.i64 ((IntKind.wrap IntKind.i64 (x2.1 + (1 : Int))) + (1 : Int))) + (1 : Int))) + (1 : Int))) + (1 : Int))) + (1 : Int))) + (1 : Int))) + (1 : Int)))) fun y14 =>
 (gd (decide ((0 : Int) ≤ x2.2.1))
 (gd (decide (x2.2.1 < (((List.length (List.set (List.set (List.set (List.set (List.set (List.set (List.set (List.set x2.2.2.1 (Int.toNat x2.2.1) ((y4.1, y5.1.2), y5.2)) (Int.toNat x2.2.1) ((y6.1.1, ((IntKind.wrap IntKind.i64 (x2.1 + (1 : Int))), y6.1.2.2)), y6.2)) (Int.toNat x2.2.1) ((y7.1.1, (y7.1.2.1, (((Int.tmod (IntKind.wrap IntKind.i64 ((IntKind.wrap IntKind.i64 (x2.1 + (1 : Int))) + (1 : Int))) (3 : Int)) == (0 : Int)), y7.1.2.2.2))), y7.2)) (Int.toNat x2.2.1) ((y8.1.1, (y8.1.2.1, (y8.1.2.2.1, (((IntKind.wrap IntKind.i64 ((IntKind.wrap IntKind.i64 ((IntKind.wrap IntKind.i64 (x2.1 + (1 : Int))) + (1 : Int))) + (1 : Int))), y8.1.2.2.2.1.2), y8.1.2.2.2.2)))), y8.2)) (Int.toNat x2.2.1) ((y9.1.1, (y9.1.2.1, (y9.1.2.2.1, ((y9.1.2.2.2.1.1, ((IntKind.wrap IntKind.i64 ((IntKind.wrap IntKind.i64 ((IntKind.wrap IntKind.i64 ((IntKind.wrap IntKind.i64 (x2.1 + (1 : Int))) + (1 : Int))) + (1 : Int))) + (1 : Int))), y9.1.2.2.2.1.2.2)), y9.1.2.2.2.2)))), y9.2)) (Int.toNat x2.2.1) ((y11.1.1, (y11.1.2.1, (y11.1.2.2.1, ((y11.1.2.2.2.1.1, (y11.1.2.2.2.1.2.1, (y10.1, y11.1.2.2.2.1.2.2.2))), y11.1.2.2.2.2)))), y11.2)) (Int.toNat x2.2.1) (y12.1, (((IntKind.wrap IntKind.i64 ((IntKind.wrap IntKind.i64 ((IntKind.wrap IntKind.i64 ((IntKind.wrap IntKind.i64 ((IntKind.wrap IntKind.i64 ((IntKind.wrap IntKind.i64 (x2.1 + (1 : Int))) + (1 : Int))) + (1 : Int))) + (1 : Int))) + (1 : Int))) + (1 : Int))), y12.2.1.2), y12.2.2))) (Int.toNat x2.2.1) (y13.1, ((y13.2.1.1, ((IntKind.wrap IntKind.i64 ((IntKind.wrap IntKind.i64 ((IntKind.wrap IntKind.i64 ((IntKind.wrap IntKind.i64 ((IntKind.wrap IntKind.i64 ((IntKind.wrap IntKind.i64 ((IntKind.wrap IntKind.i64 (x2.1 + (1 : Int))) + (1 : Int))) + (1 : Int))) + (1 : Int))) + (1 : Int))) + (1 : Int))) + (1 : Int))), y13.2.1.2.2)), y13.2.2)))) : Nat) : Int)))
 (Option.bind (List.set (List.set (List.set (List.set (List.set (List.set (List.set (List.set x2.2.2.1 (Int.toNat x2.2.1) ((y4.1, y5.1.2), y5.2)) (Int.toNat x2.2.1) ((y6.1.1, ((IntKind.wrap IntKind.i64 (x2.1 + (1 : Int))), y6.1.2.2)), y6.2)) (Int.toNat x2.2.1) ((y7.1.1, (y7.1.2.1, (((Int.tmod (IntKind.wrap IntKind.i64 ((IntKind.wrap IntKind.i64 (x2.1 + (1 : Int))) + (1 : Int))) (3 : Int)) == (0 : Int)), y7.1.2.2.2))), y7.2)) (Int.toNat x2.2.1) ((y8.1.1, (y8.1.2.1, (y8.1.2.2.1, (((IntKind.wrap IntKind.i64 ((IntKind.wrap IntKind.i64 ((IntKind.wrap IntKind.i64 (x2.1 + (1 : Int))) + (1 : Int))) + (1 : Int))), y8.1.2.2.2.1.2), y8.1.2.2.2.2)))), y8.2)) (Int.toNat x2.2.1) ((y9.1.1, (y9.1.2.1, (y9.1.2.2.1, ((y9.1.2.2.2.1.1, ((IntKind.wrap IntKind.i64 ((IntKind.wrap IntKind.i64 ((IntKind.wrap IntKind.i64 ((IntKind.wrap IntKind.i64 (x2.1 + (1 : Int))) + (1 : Int))) + (1 : Int))) + (1 : Int))), y9.1.2.2.2.1.2.2)), y9.1.2.2.2.2)))), y9.2)) (Int.toNat x2.2.1) ((y11.1.1, (y11.1.2.1, (y11.1.2.2.1, ((y11.1.2.2.2.1.1, (y11.1.2.2.2.1.2.1, (y10.1, y11.1.2.2.2.1.2.2.2))), y11.1.2.2.2.2)))), y11.2)) (Int.toNat x2.2.1) (y12.1, (((IntKind.wrap IntKind.i64 ((IntKind.wrap IntKind.i64 ((IntKind.wrap IntKind.i64 ((IntKind.wrap IntKind.i64 ((IntKind.wrap IntKind.i64 ((IntKind.wrap IntKind.i64 (x2.1 + (1 : Int))) + (1 : Int))) + (1 : Int))) + (1 : Int))) + (1 : Int))) + (1 : Int))), y12.2.1.2), y12.2.2))) (Int.toNat x2.2.1) (y13.1, ((y13.2.1.1, ((IntKind.wrap IntKind.i64 ((IntKind.wrap IntKind.i64 ((IntKind.wrap IntKind.i64 ((IntKind.wrap IntKind.i64 ((IntKind.wrap IntKind.i64 ((IntKind.wrap IntKind.i64 ((IntKind.wrap IntKind.i64 (x2.1 + (1 : Int))) + (1 : Int))) + (1 : Int))) + (1 : Int))) + (1 : Int))) + (1 : Int))) + (1 : Int))), y13.2.1.2.2)), y13.2.2)))[(Int.toNat x2.2.1)]? fun y15 =>
 (gd (decide ((0 : Int) ≤ x2.2.1))
 (gd (decide (x2.2.1 < (((List.length (List.set (List.set (List.set (List.set (List.set (List.set (List.set (List.set (List.set x2.2.2.1 (Int.toNat x2.2.1) ((y4.1, y5.1.2), y5.2)) (Int.toNat x2.2.1) ((y6.1.1, ((IntKind.wrap IntKind.i64 (x2.1 + (1 : Int))), y6.1.2.2)), y6.2)) (Int.toNat x2.2.1) ((y7.1.1, (y7.1.2.1, (((Int.tmod (IntKind.wrap IntKind.i64 ((IntKind.wrap IntKind.i64 (x2.1 + (1 : Int))) + (1 : Int))) (3 : Int)) == (0 : Int)), y7.1.2.2.2))), y7.2)) (Int.toNat x2.2.1) ((y8.1.1, (y8.1.2.1, (y8.1.2.2.1, (((IntKind.wrap IntKind.i64 ((IntKind.wrap IntKind.i64 ((IntKind.wrap IntKind.i64 (x2.1 + (1 : Int))) + (1 : Int))) + (1 : Int))), y8.1.2.2.2.1.2), y8.1.2.2.2.2)))), y8.2)) (Int.toNat x2.2.1) ((y9.1.1, (y9.1.2.1, (y9.1.2.2.1, ((y9.1.2.2.2.1.1, ((IntKind.wrap IntKind.i64 ((IntKind.wrap IntKind.i64 ((IntKind.wrap IntKind.i64 ((IntKind.wrap IntKind.i64 (x2.1 + (1 : Int))) + (1 : Int))) + (1 : Int))) + (1 : Int))), y9.1.2.2.2.1.2.2)), y9.1.2.2.2.2)))), y9.2)) (Int.toNat x2.2.1) ((y11.1.1, (y11.1.2.1, (y11.1.2.2.1, ((y11.1.2.2.2.1.1, (y11.1.2.2.2.1.2.1, (y10.1, y11.1.2.2.2.1.2.2.2))), y11.1.2.2.2.2)))), y11.2)) (Int.toNat x2.2.1) (y12.1, (((IntKind.wrap IntKind.i64 ((IntKind.wrap IntKind.i64 ((IntKind.wrap IntKind.i64 ((IntKind.wrap IntKind.i64 ((IntKind.wrap IntKind.i64 ((IntKind.wrap IntKind.i64 (x2.1 + (1 : Int))) + (1 : Int))) + (1 : Int))) + (1 : Int))) + (1 : Int))) + (1 : Int))), y12.2.1.2), y12.2.2))) (Int.toNat x2.2.1) (y13.1, ((y13.2.1.1, ((IntKind.wrap IntKind.i64 ((IntKind.wrap IntKind.i64 ((IntKind.wrap IntKind.i64 ((IntKind.wrap IntKind.i64 ((IntKind.wrap IntKind.i64 ((IntKind.wrap IntKind.i64 ((IntKind.wrap IntKind.i64 (x2.1 + (1 : Int))) + (1 : Int))) + (1 : Int))) + (1 : Int))) + (1 : Int))) + (1 : Int))) + (1 : Int))), y13.2.1.2.2)), y13.2.2))) (Int.toNat x2.2.1) (y15.1, ((y15.2.1.1, (y15.2.1.2.1, (y14.1, y15.2.1.2.2.2))), y15.2.2)))) : Nat) : Int)))
 (Option.bind (List.set (List.set (List.set (List.set (List.set (List.set (List.set (List.set (List.set x2.2.2.1 (Int.toNat x2.2.1) ((y4.1, y5.1.2), y5.2)) (Int.toNat x2.2.1) ((y6.1.1, ((IntKind.wrap IntKind.i64 (x2.1 + (1 : Int))), y6.1.2.2)), y6.2)) (Int.toNat x2.2.1) ((y7.1.1, (y7.1.2.1, (((Int.tmod (IntKind.wrap IntKind.i64 ((IntKind.wrap IntKind.i64 (x2.1 + (1 : Int))) + (1 : Int))) (3 : Int)) == (0 : Int)), y7.1.2.2.2))), y7.2)) (Int.toNat x2.2.1) ((y8.1.1, (y8.1.2.1, (y8.1.2.2.1, (((IntKind.wrap IntKind.i64 ((IntKind.wrap IntKind.i64 ((IntKind.wrap IntKind.i64 (x2.1 + (1 : Int))) + (1 : Int))) + (1 : Int))), y8.1.2.2.2.1.2), y8.1.2.2.2.2)))), y8.2)) (Int.toNat x2.2.1) ((y9.1.1, (y9.1.2.1, (y9.1.2.2.1, ((y9.1.2.2.2.1.1, ((IntKind.wrap IntKind.i64 ((IntKind.wrap IntKind.i64 ((IntKind.wrap IntKind.i64 ((IntKind.wrap IntKind.i64 (x2.1 + (1 : Int))) + (1 : Int))) + (1 : Int))) + (1 : Int))), y9.1.2.2.2.1.2.2)), y9.1.2.2.2.2)))), y9.2)) (Int.toNat x2.2.1) ((y11.1.1, (y11.1.2.1, (y11.1.2.2.1, ((y11.1.2.2.2.1.1, (y11.1.2.2.2.1.2.1, (y10.1, y11.1.2.2.2.1.2.2.2))), y11.1.2.2.2.2)))), y11.2)) (Int.toNat x2.2.1) (y12.1, (((IntKind.wrap IntKind.i64 ((IntKind.wrap IntKind.i64 ((IntKind.wrap IntKind.i64 ((IntKind.wrap IntKind.i64 ((IntKind.wrap IntKind.i64 ((IntKind.wrap IntKind.i64 (x2.1 + (1 : Int))) + (1 : Int))) + (1 : Int))) + (1 : Int))) + (1 : Int))) + (1 : Int))), y12.2.1.2), y12.2.2))) (Int.toNat x2.2.1) (y13.1, ((y13.2.1.1, ((IntKind.wrap IntKind.i64 ((IntKind.wrap IntKind.i64 ((IntKind.wrap IntKind.i64 ((IntKind.wrap IntKind.i64 ((IntKind.wrap IntKind.i64 ((IntKind.wrap IntKind.i64 ((IntKind.wrap IntKind.i64 (x2.1 + (1 : Int))) + (1 : Int))) + (1 : Int))) + (1 : Int))) + (1 : Int))) + (1 : Int))) + (1 : Int))), y13.2.1.2.2)), y13.2.2))) (Int.toNat x2.2.1) (y15.1, ((y15.2.1.1, (y15.2.1.2.1, (y14.1, y15.2.1.2.2.2))), y15.2.2)))[(Int.toNat x2.2.1)]? fun y16 =>
 (rec ((IntKind.wrap IntKind.i64 ((IntKind.wrap IntKind.i64 ((IntKind.wrap IntKind.i64 ((IntKind.wrap IntKind.i64 ((IntKind.wrap IntKind.i64 ((IntKind.wrap IntKind.i64 ((IntKind.wrap IntKind.i64 ((IntKind.wrap IntKind.i64 ((IntKind.wrap IntKind.i64 ((IntKind.wrap IntKind.i64 (x2.1 + (1 : Int))) + (1 : Int))) + (1 : Int))) + (1 : Int))) + (1 : Int))) + (1 : Int))) + (1 : Int))) + (1 : Int))) + (1 : Int))) + (1 : Int))), (IntKind.wrap IntKind.i64 (x2.2.1 + (1 : Int))), (List.set (List.set (List.set (List.set (List.set (List.set (List.set (List.set (List.set (List.set x2.2.2.1 (Int.toNat x2.2.1) ((y4.1, y5.1.2), y5.2)) (Int.toNat x2.2.1) ((y6.1.1, ((IntKind.wrap IntKind.i64 (x2.1 + (1 : Int))), y6.1.2.2)), y6.2)) (Int.toNat x2.2.1) ((y7.1.1, (y7.1.2.1, (((Int.tmod (IntKind.wrap IntKind.i64 ((IntKind.wrap IntKind.i64 (x2.1 + (1 : Int))) + (1 : Int))) (3 : Int)) == (0 : Int)), y7.1.2.2.2))), y7.2)) (Int.toNat x2.2.1) ((y8.1.1, (y8.1.2.1, (y8.1.2.2.1, (((IntKind.wrap IntKind.i64 ((IntKind.wrap IntKind.i64 ((IntKind.wrap IntKind.i64 (x2.1 + (1 : Int))) + (1 : Int))) + (1 : Int))), y8.1.2.2.2.1.2), y8.1.2.2.2.2)))), y8.2)) (Int.toNat x2.2.1) ((y9.1.1, (y9.1.2.1, (y9.1.2.2.1, ((y9.1.2.2.2.1.1, ((IntKind.wrap IntKind.i64 ((IntKind.wrap IntKind.i64 ((IntKind.wrap IntKind.i64 ((IntKind.wrap IntKind.i64 (x2.1 + (1 : Int))) + (1 : Int))) + (1 : Int))) + (1 : Int))), y9.1.2.2.2.1.2.2)), y9.1.2.2.2.2)))), y9.2)) (Int.toNat x2.2.1) ((y11.1.1, (y11.1.2.1, (y11.1.2.2.1, ((y11.1.2.2.2.1.1, (y11.1.2.2.2.1.2.1, (y10.1, y11.1.2.2.2.1.2.2.2))), y11.1.2.2.2.2)))), y11.2)) (Int.toNat x2.2.1) (y12.1, (((IntKind.wrap IntKind.i64 ((IntKind.wrap IntKind.i64 ((IntKind.wrap IntKind.i64 ((IntKind.wrap IntKind.i64 ((IntKind.wrap IntKind.i64 ((IntKind.wrap IntKind.i64 (x2.1 + (1 : Int))) + (1 : Int))) + (1 : Int))) + (1 : Int))) + (1 : Int))) + (1 : Int))), y12.2.1.2), y12.2.2))) (Int.toNat x2.2.1) (y13.1, ((y13.2.1.1, ((IntKind.wrap IntKind.i64 ((IntKind.wrap IntKind.i64 ((IntKind.wrap IntKind.i64 ((IntKind.wrap IntKind.i64 ((IntKind.wrap IntKind.i64 ((IntKind.wrap IntKind.i64 ((IntKind.wrap IntKind.i64 (x2.1 + (1 : Int))) + (1 : Int))) + (1 : Int))) + (1 : Int))) + (1 : Int))) + (1 : Int))) + (1 : Int))), y13.2.1.2.2)), y13.2.2))) (Int.toNat x2.2.1) (y15.1, ((y15.2.1.1, (y15.2.1.2.1, (y14.1, y15.2.1.2.2.2))), y15.2.2))) (Int.toNat x2.2.1) (y16.1, (y16.2.1, (((Int.tmod (IntKind.wrap IntKind.i64 ((IntKind.wrap IntKind.i64 ((IntKind.wrap IntKind.i64 ((IntKind.wrap IntKind.i64 ((IntKind.wrap IntKind.i64 ((IntKind.wrap IntKind.i64 ((IntKind.wrap IntKind.i64 ((IntKind.wrap IntKind.i64 ((IntKind.wrap IntKind.i64 (x2.1 + (1 : Int))) + (1 : Int))) + (1 : Int))) + (1 : Int))) + (1 : Int))) + (1 : Int))) + (1 : Int))) + (1 : Int))) + (1 : Int))) (3 : Int)) == (0 : Int)), y16.2.2.2)))), ())))))))))))))))))))))))))))))))))))
 (e0_0 (x2.1, x2.2.2.1, ())))
noncomputable def F43 (a0 : List (D108)) (a1 : Int) : Option (Int × List (D108) × Unit) :=
 (iter (F43_R2
 (fun y17 =>
 (some (y17.1, (y17.2.1, ()))))) fuel (a1, (0 : Int), a0, ()))
noncomputable def C43 : Fun := ⟨[(.io (.slice Y108) (.own .z)), (.ro (.int .i64))], [((.int .i64), .z)], fun z => F43 z.1 z.2.1⟩
noncomputable def E43 : Env := ⟨102, tyTab tys, oneTab ones, fnTab [(67, C67)], false, [], [(2, [0, 1, 5], [4]), (4, [0, 1, 5], [4]), (24, [1], [4]), (100000, [1], [4]), (100001, [0, 1, 5], [4]), (99999, [4], [4])], none, [], []⟩
noncomputable def L43 : List (LoopS (Int × List (D108) × Unit)) := [⟨2, ⟨[(0, (.ref (.slice Y108) 4 [])), (1, (.pv (.int .i64))), (5, (.pv (.int .i64)))], [(4, (.data false (.slice Y108) (.own .z)))]⟩, fun κ => F43_R2 (fun y => κ.exit 0 (SSh.mk' ⟨[(1, (.pv (.int .i64)))], [(4, (.data false (.slice Y108) (.own .z)))]⟩ y))⟩]
theorem L43_2 : ∀ p : Option Src, RoundEq { E43 with pin := p } L43 L43[0] (nthLoop (codeOf Tryz.f43) 0) := fun p κ N x => by kernel_rfl
theorem C43_ok : IoOk Tryz.prog 43 C43 := tO E43 L43 [nthLoop (codeOf Tryz.f43) 0] Tryz.func43 ty_ok (.cons C67_ok .nil) (fun p => (.cons L43[0] (by kernel_rfl) (L43_2 p) .nil))
noncomputable def F13_R2 (e0_0 : Int × List (D25) × Unit → Option (Int × List (D25) × Unit)) (rec : Int × Int × List (D25) × Unit → Option (Int × List (D25) × Unit)) (x2 : Int × Int × List (D25) × Unit) : Option (Int × List (D25) × Unit) :=
 (cond (decide (x2.2.1 < (((List.length x2.2.2.1) : Nat) : Int)))
 (gd (decide ((0 : Int) ≤ x2.2.1))
 (gd (decide (x2.2.1 < (((List.length x2.2.2.1) : Nat) : Int)))
 (Option.bind x2.2.2.1[(Int.toNat x2.2.1)]? fun y4 =>
 (gd (decide ((0 : Int) ≤ x2.2.1))
 (gd (decide (x2.2.1 < (((List.length (List.set x2.2.2.1 (Int.toNat x2.2.1) (x2.1, y4.2))) : Nat) : Int)))
 (Option.bind (List.set x2.2.2.1 (Int.toNat x2.2.1) (x2.1, y4.2))[(Int.toNat x2.2.1)]? fun y5 =>
 (gd (decide ((0 : Int) ≤ x2.2.1))
 (gd (decide (x2.2.1 < (((List.length (List.set (List.set x2.2.2.1 (Int.toNat x2.2.1) (x2.1, y4.2)) (Int.toNat x2.2.1) (y5.1, ((IntKind.wrap IntKind.i64 (x2.1 + (1 : Int))), y5.2.2)))) : Nat) : Int)))
 (Option.bind (List.set (List.set x2.2.2.1 (Int.toNat x2.2.1) (x2.1, y4.2)) (Int.toNat x2.2.1) (y5.1, ((IntKind.wrap IntKind.i64 (x2.1 + (1 : Int))), y5.2.2)))[(Int.toNat x2.2.1)]? fun y6 =>
 (Option.bind (List.set (List.set x2.2.2.1 (Int.toNat x2.2.1) (x2.1, y4.2)) (Int.toNat x2.2.1) (y5.1, ((IntKind.wrap IntKind.i64 (x2.1 + (1 : Int))), y5.2.2)))[(Int.toNat x2.2.1)]? fun y7 =>
 (Option.bind (F42 y7.2.2.1 (IntKind.wrap IntKind.i64 ((IntKind.wrap IntKind.i64 (x2.1 + (1 : Int))) + (1 : Int)))) fun y8 =>
 (Option.bind (List.set (List.set x2.2.2.1 (Int.toNat x2.2.1) (x2.1, y4.2)) (Int.toNat x2.2.1) (y5.1, ((IntKind.wrap IntKind.i64 (x2.1 + (1 : Int))), y5.2.2)))[(Int.toNat x2.2.1)]? fun y9 =>
 (gd (decide ((0 : Int) ≤ x2.2.1))
 (gd (decide (x2.2.1 < (((List.length (List.set (List.set (List.set x2.2.2.1 (Int.toNat x2.2.1) (x2.1, y4.2)) (Int.toNat x2.2.1) (y5.1, ((IntKind.wrap IntKind.i64 (x2.1 + (1 : Int))), y5.2.2))) (Int.toNat x2.2.1) (y9.1, (y9.2.1, (y8.2.1, y9.2.2.2))))) : Nat) : Int)))
 (Option.bind (List.set (List.set (List.set x2.2.2.1 (Int.toNat x2.2.1) (x2.1, y4.2)) (Int.toNat x2.2.1) (y5.1, ((IntKind.wrap IntKind.i64 (x2.1 + (1 : Int))), y5.2.2))) (Int.toNat x2.2.1) (y9.1, (y9.2.1, (y8.2.1, y9.2.2.2))))[(Int.toNat x2.2.1)]? fun y10 =>
 (Option.bind (List.set (List.set (List.set x2.2.2.1 (Int.toNat x2.2.1) (x2.1, y4.2)) (Int.toNat x2.2.1) (y5.1, ((IntKind.wrap IntKind.i64 (x2.1 + (1 : Int))), y5.2.2))) (Int.toNat x2.2.1) (y9.1, (y9.2.1, (y8.2.1, y9.2.2.2))))[(Int.toNat x2.2.1)]? fun y11 =>
 (Option.bind (F43 y11.2.2.2.1 y8.1) fun y12 =>
 (Option.bind (List.set (List.set (List.set x2.2.2.1 (Int.toNat x2.2.1) (x2.1, y4.2)) (Int.toNat x2.2.1) (y5.1, ((IntKind.wrap IntKind.i64 (x2.1 + (1 : Int))), y5.2.2))) (Int.toNat x2.2.1) (y9.1, (y9.2.1, (y8.2.1, y9.2.2.2))))[(Int.toNat x2.2.1)]? fun y13 =>
 (gd (decide ((0 : Int) ≤ x2.2.1))
 (gd (decide (x2.2.1 < (((List.length (List.set (List.set (List.set (List.set x2.2.2.1 (Int.toNat x2.2.1) (x2.1, y4.2)) (Int.toNat x2.2.1) (y5.1, ((IntKind.wrap IntKind.i64 (x2.1 + (1 : Int))), y5.2.2))) (Int.toNat x2.2.1) (y9.1, (y9.2.1, (y8.2.1, y9.2.2.2)))) (Int.toNat x2.2.1) (y13.1, (y13.2.1, (y13.2.2.1, (y12.2.1, y13.2.2.2.2)))))) : Nat) : Int)))
 (Option.bind (List.set (List.set (List.set (List.set x2.2.2.1 (Int.toNat x2.2.1) (x2.1, y4.2)) (Int.toNat x2.2.1) (y5.1, ((IntKind.wrap IntKind.i64 (x2.1 + (1 : Int))), y5.2.2))) (Int.toNat x2.2.1) (y9.1, (y9.2.1, (y8.2.1, y9.2.2.2)))) (Int.toNat x2.2.1) (y13.1, (y13.2.1, (y13.2.2.1, (y12.2.1, y13.2.2.2.2)))))[(Int.toNat x2.2.1)]? fun y14 =>
 (gd (decide ((0 : Int) ≤ x2.2.1))
 (gd (decide (x2.2.1 < (((List.length (List.set (List.set (List.set (List.set (List.set x2.2.2.1 (Int.toNat x2.2.1) (x2.1, y4.2)) (Int.toNat x2.2.1) (y5.1, ((IntKind.wrap IntKind.i64 (x2.1 + (1 : Int))), y5.2.2))) (Int.toNat x2.2.1) (y9.1, (y9.2.1, (y8.2.1, y9.2.2.2)))) (Int.toNat x2.2.1) (y13.1, (y13.2.1, (y13.2.2.1, (y12.2.1, y13.2.2.2.2))))) (Int.toNat x2.2.1) (y14.1, (y14.2.1, (y14.2.2.1, (y14.2.2.2.1, (((Int.tmod y12.1 (3 : Int)) == (0 : Int)), y14.2.2.2.2.2))))))) : Nat) : Int)))
 (Option.bind (List.set (List.set (List.set (List.set (List.set x2.2.2.1 (Int.toNat x2.2.1) (x2.1, y4.2)) (Int.toNat x2.2.1) (y5.1, ((IntKind.wrap IntKind.i64 (x2.1 + (1 : Int))), y5.2.2))) (Int.toNat x2.2.1) (y9.1, (y9.2.1, (y8.2.1, y9.2.2.2)))) (Int.toNat x2.2.1) (y13.1, (y13.2.1, (y13.2.2.1, (y12.2.1, y13.2.2.2.2))))) (Int.toNat x2.2.1) (y14.1, (y14.2.1, (y14.2.2.1, (y14.2.2.2.1, (((Int.tmod y12.1 (3 : Int)) == (0 : Int)), y14.2.2.2.2.2))))))[(Int.toNat x2.2.1)]? fun y15 =>
 (rec ((IntKind.wrap IntKind.i64 ((IntKind.wrap IntKind.i64 (y12.1 + (1 : Int))) + (1 : Int))), (IntKind.wrap IntKind.i64 (x2.2.1 + (1 : Int))), (List.set (List.set (List.set (List.set (List.set (List.set x2.2.2.1 (Int.toNat x2.2.1) (x2.1, y4.2)) (Int.toNat x2.2.1) (y5.1, ((IntKind.wrap IntKind.i64 (x2.1 + (1 : Int))), y5.2.2))) (Int.toNat x2.2.1) (y9.1, (y9.2.1, (y8.2.1, y9.2.2.2)))) (Int.toNat x2.2.1) (y13.1, (y13.2.1, (y13.2.2.1, (y12.2.1, y13.2.2.2.2))))) (Int.toNat x2.2.1) (y14.1, (y14.2.1, (y14.2.2.1, (y14.2.2.2.1, (((Int.tmod y12.1 (3 : Int)) == (0 : Int)), y14.2.2.2.2.2)))))) (Int.toNat x2.2.1) (y15.1, (y15.2.1, (y15.2.2.1, (y15.2.2.2.1, (y15.2.2.2.2.1, (((Int.tmod (IntKind.wrap IntKind.i64 (y12.1 + (1 : Int))) (3 : Int)) == (0 : Int)), y15.2.2.2.2.2.2))))))), ()))))))))))))))))))))))))))
 (e0_0 (x2.1, x2.2.2.1, ())))
noncomputable def F13 (a0 : List (D25)) (a1 : Int) : Option (Int × List (D25) × Unit) :=
 (iter (F13_R2
 (fun y16 =>
 (some (y16.1, (y16.2.1, ()))))) fuel (a1, (0 : Int), a0, ()))
noncomputable def C13 : Fun := ⟨[(.io (.slice Y25) (.own (.pr .z (.pr .z (.pr (.own (.pr .z (.pr (.pr (.own (.pr (.own .z) .z)) .z) .z))) (.pr (.own .z) .z)))))), (.ro (.int .i64))], [((.int .i64), .z)], fun z => F13 z.1 z.2.1⟩
noncomputable def E13 : Env := ⟨59, tyTab tys, oneTab ones, fnTab [(42, C42), (43, C43)], false, [], [(2, [0, 1, 5], [4]), (4, [0, 1, 5], [4]), (14, [1], [4]), (100000, [1], [4]), (100001, [0, 1, 5], [4]), (99999, [4], [4])], none, [], []⟩
noncomputable def L13 : List (LoopS (Int × List (D25) × Unit)) := [⟨2, ⟨[(0, (.ref (.slice Y25) 4 [])), (1, (.pv (.int .i64))), (5, (.pv (.int .i64)))], [(4, (.data false (.slice Y25) (.own (.pr .z (.pr .z (.pr (.own (.pr .z (.pr (.pr (.own (.pr (.own .z) .z)) .z) .z))) (.pr (.own .z) .z)))))))]⟩, fun κ => F13_R2 (fun y => κ.exit 0 (SSh.mk' ⟨[(1, (.pv (.int .i64)))], [(4, (.data false (.slice Y25) (.own (.pr .z (.pr .z (.pr (.own (.pr .z (.pr (.pr (.own (.pr (.own .z) .z)) .z) .z))) (.pr (.own .z) .z)))))))]⟩ y))⟩]
theorem L13_2 : ∀ p : Option Src, RoundEq { E13 with pin := p } L13 L13[0] (nthLoop (codeOf Tryz.f13) 0) := fun p κ N x => by kernel_rfl
theorem C13_ok : IoOk Tryz.prog 13 C13 := tO E13 L13 [nthLoop (codeOf Tryz.f13) 0] Tryz.func13 ty_ok (.consIo C42_ok (.consIo C43_ok .nil)) (fun p => (.cons L13[0] (by kernel_rfl) (L13_2 p) .nil))
noncomputable def F14 (a0 : D25) (a1 : Int) : Option (Int × Unit) :=
 (Option.bind (F42 a0.2.2.1 a1) fun y0 =>
 (Option.bind (F43 a0.2.2.2.1 y0.1) fun y1 =>
 (some (y1.1, ()))))
noncomputable def C14 : Fun := ⟨[(.tk Y25 (.pr .z (.pr .z (.pr (.own (.pr .z (.pr (.pr (.own (.pr (.own .z) .z)) .z) .z))) (.pr (.own .z) .z))))), (.ro (.int .i64))], [((.int .i64), .z)], fun z => F14 z.1 z.2.1⟩
noncomputable def E14 : Env := ⟨14, tyTab tys, oneTab ones, fnTab [(42, C42), (43, C43)], false, [], [(99999, [4], [])], none, [], []⟩
noncomputable def L14 : List (LoopS (Int × Unit)) := []
theorem C14_ok : IoOk Tryz.prog 14 C14 := tK E14 L14 [] Tryz.func14 ty_ok (.consIo C42_ok (.consIo C43_ok .nil)) .nil
noncomputable def F135_R2 (e0_0 : Int × Unit → Option (Int × Unit)) (er_1 : Int × Unit → Option (Int × Unit)) (rec : List (D170) × Int × Int × Unit → Option (Int × Unit)) (x2 : List (D170) × Int × Int × Unit) : Option (Int × Unit) :=
 (cond (decide (x2.2.2.1 < (((List.length x2.1) : Nat) : Int)))
 (gd (decide ((0 : Int) ≤ x2.2.2.1))
 (Option.bind x2.1[(Int.toNat x2.2.2.1)]? fun y6 =>
 (cond (y6.1 != x2.2.1)
 (er_1 ((-(1 : Int)), ()))
 (gd (decide ((0 : Int) ≤ x2.2.2.1))
 (Option.bind x2.1[(Int.toNat x2.2.2.1)]? fun y8 =>
 (Option.bind (F67 (IntKind.wrap IntKind.i64 (x2.2.1 + (1 : Int)))) fun y9 =>
 (cond (!(y8.2.1 == y9.1))
 (er_1 ((-(1 : Int)), ()))
 (gd (decide ((0 : Int) ≤ x2.2.2.1))
 (Option.bind x2.1[(Int.toNat x2.2.2.1)]? fun y11 =>
 (cond (y11.2.2.1.1 != (IntKind.wrap IntKind.i64 ((IntKind.wrap IntKind.i64 (x2.2.1 + (1 : Int))) + (1 : Int))))
 (er_1 ((-(1 : Int)), ()))
 (gd (decide ((0 : Int) ≤ x2.2.2.1))
 (Option.bind x2.1[(Int.toNat x2.2.2.1)]? fun y13 =>
 (cond (y13.2.2.1.2.1 != (IntKind.wrap IntKind.i64 ((IntKind.wrap IntKind.i64 ((IntKind.wrap IntKind.i64 (x2.2.1 + (1 : Int))) + (1 : Int))) + (1 : Int))))
 (er_1 ((-(1 : Int)), ()))
 (gd (decide ((0 : Int) ≤ x2.2.2.1))
 (Option.bind x2.1[(Int.toNat x2.2.2.1)]? fun y15 =>
 (Option.bind (F67 (IntKind.wrap IntKind.i64 ((IntKind.wrap IntKind.i64 ((IntKind.wrap IntKind.i64 ((IntKind.wrap IntKind.i64 (x2.2.1 + (1 : Int))) + (1 : Int))) + (1 : Int))) + (1 : Int)))) fun y16 =>
 (cond (!(y15.2.2.1.2.2.1 == y16.1))
 (er_1 ((-(1 : Int)), ()))
 (rec (x2.1, (IntKind.wrap IntKind.i64 ((IntKind.wrap IntKind.i64 ((IntKind.wrap IntKind.i64 ((IntKind.wrap IntKind.i64 ((IntKind.wrap IntKind.i64 (x2.2.1 + (1 : Int))) + (1 : Int))) + (1 : Int))) + (1 : Int))) + (1 : Int))), (IntKind.wrap IntKind.i64 (x2.2.2.1 + (1 : Int))), ())))))))))))))))))))
 (e0_0 (x2.2.1, ())))
noncomputable def F135 (a0 : List (D170)) (a1 : Int) : Option (Int × Unit) :=
 (iter (F135_R2
 (fun y17 =>
 (some (y17.1, ())))
 (fun y18 =>
 (some (y18.1, ())))) fuel (a0, a1, (0 : Int), ()))
noncomputable def C135 : Fun := ⟨[(.ro (.slice Y170)), (.ro (.int .i64))], [((.int .i64), .z)], fun z => F135 z.1 z.2.1⟩
noncomputable def E135 : Env := ⟨63, tyTab tys, oneTab ones, fnTab [(67, C67)], false, [], [(2, [0, 1, 5], []), (3, [0, 1, 5], []), (4, [0, 1, 5], []), (6, [0, 1, 5], []), (9, [0, 1, 5], []), (12, [0, 1, 5], []), (15, [0, 1, 5], []), (18, [0, 1, 5], []), (19, [1], []), (100000, [1], []), (100001, [0, 1, 5], []), (99999, [4], [])], none, [], []⟩
noncomputable def L135 : List (LoopS (Int × Unit)) := [⟨2, ⟨[(0, (.pv (.slice Y170))), (1, (.pv (.int .i64))), (5, (.pv (.int .i64)))], []⟩, fun κ => F135_R2 (fun y => κ.exit 0 (SSh.mk' ⟨[(1, (.pv (.int .i64)))], []⟩ y)) (fun y => κ.ret (SSh.mk' ⟨[(4, (.pv (.int .i64)))], []⟩ y))⟩]
theorem L135_2 : RoundEq E135 L135 L135[0] (nthLoop (codeOf Tryz.f135) 0) := fun κ N x => by kernel_rfl
theorem C135_ok : QuietOk Tryz.prog 135 C135 := tQ E135 L135 [nthLoop (codeOf Tryz.f135) 0] Tryz.func135 ty_ok (.cons C67_ok .nil) (.cons L135[0] (by kernel_rfl) L135_2 .nil)
noncomputable def F90_R2 (e0_0 : Int × Unit → Option (Int × Unit)) (er_1 : Int × Unit → Option (Int × Unit)) (rec : List (D157) × Int × Int × Unit → Option (Int × Unit)) (x2 : List (D157) × Int × Int × Unit) : Option (Int × Unit) :=
 (cond (decide (x2.2.2.1 < (((List.length x2.1) : Nat) : Int)))
 (gd (decide ((0 : Int) ≤ x2.2.2.1))
 (Option.bind x2.1[(Int.toNat x2.2.2.1)]? fun y5 =>
 (Option.bind (F135 y5.1 x2.2.1) fun y6 =>
 (cond (decide (y6.1 < (0 : Int)))
 (er_1 ((-(1 : Int)), ()))
 (rec (x2.1, y6.1, (IntKind.wrap IntKind.i64 (x2.2.2.1 + (1 : Int))), ()))))))
 (e0_0 (x2.2.1, ())))
noncomputable def F90 (a0 : List (D157)) (a1 : Int) : Option (Int × Unit) :=
 (iter (F90_R2
 (fun y7 =>
 (some (y7.1, ())))
 (fun y8 =>
 (some (y8.1, ())))) fuel (a0, a1, (0 : Int), ()))
noncomputable def C90 : Fun := ⟨[(.ro (.slice Y157)), (.ro (.int .i64))], [((.int .i64), .z)], fun z => F90 z.1 z.2.1⟩
noncomputable def E90 : Env := ⟨22, tyTab tys, oneTab ones, fnTab [(135, C135)], false, [], [(2, [0, 1, 5], []), (3, [0, 1, 5], []), (4, [0, 1, 5], []), (7, [1], []), (100000, [1], []), (100001, [0, 1, 5], []), (99999, [4], [])], none, [], []⟩
noncomputable def L90 : List (LoopS (Int × Unit)) := [⟨2, ⟨[(0, (.pv (.slice Y157))), (1, (.pv (.int .i64))), (5, (.pv (.int .i64)))], []⟩, fun κ => F90_R2 (fun y => κ.exit 0 (SSh.mk' ⟨[(1, (.pv (.int .i64)))], []⟩ y)) (fun y => κ.ret (SSh.mk' ⟨[(4, (.pv (.int .i64)))], []⟩ y))⟩]
theorem L90_2 : RoundEq E90 L90 L90[0] (nthLoop (codeOf Tryz.f90) 0) := fun κ N x => by kernel_rfl
theorem C90_ok : QuietOk Tryz.prog 90 C90 := tQ E90 L90 [nthLoop (codeOf Tryz.f90) 0] Tryz.func90 ty_ok (.cons C135_ok .nil) (.cons L90[0] (by kernel_rfl) L90_2 .nil)
noncomputable def F44_R2 (e0_0 : Int × Unit → Option (Int × Unit)) (er_1 : Int × Unit → Option (Int × Unit)) (rec : List (D103) × Int × Int × Unit → Option (Int × Unit)) (x2 : List (D103) × Int × Int × Unit) : Option (Int × Unit) :=
 (cond (decide (x2.2.2.1 < (((List.length x2.1) : Nat) : Int)))
 (gd (decide ((0 : Int) ≤ x2.2.2.1))
 (Option.bind x2.1[(Int.toNat x2.2.2.1)]? fun y6 =>
 (Option.bind (F67 x2.2.1) fun y7 =>
 (cond (!(y6.1 == y7.1))
 (er_1 ((-(1 : Int)), ()))
 (gd (decide ((0 : Int) ≤ x2.2.2.1))
 (Option.bind x2.1[(Int.toNat x2.2.2.1)]? fun y8 =>
 (Option.bind (F90 y8.2.1.1 (IntKind.wrap IntKind.i64 (x2.2.1 + (1 : Int)))) fun y9 =>
 (cond (decide (y9.1 < (0 : Int)))
 (er_1 ((-(1 : Int)), ()))
 (rec (x2.1, y9.1, (IntKind.wrap IntKind.i64 (x2.2.2.1 + (1 : Int))), ()))))))))))
 (e0_0 (x2.2.1, ())))
noncomputable def F44 (a0 : List (D103)) (a1 : Int) : Option (Int × Unit) :=
 (iter (F44_R2
 (fun y10 =>
 (some (y10.1, ())))
 (fun y11 =>
 (some (y11.1, ())))) fuel (a0, a1, (0 : Int), ()))
noncomputable def C44 : Fun := ⟨[(.ro (.slice Y103)), (.ro (.int .i64))], [((.int .i64), .z)], fun z => F44 z.1 z.2.1⟩
noncomputable def E44 : Env := ⟨33, tyTab tys, oneTab ones, fnTab [(67, C67), (90, C90)], false, [], [(2, [0, 1, 5], []), (3, [0, 1, 5], []), (4, [0, 1, 5], []), (6, [0, 1, 5], []), (10, [1], []), (100000, [1], []), (100001, [0, 1, 5], []), (99999, [4], [])], none, [], []⟩
noncomputable def L44 : List (LoopS (Int × Unit)) := [⟨2, ⟨[(0, (.pv (.slice Y103))), (1, (.pv (.int .i64))), (5, (.pv (.int .i64)))], []⟩, fun κ => F44_R2 (fun y => κ.exit 0 (SSh.mk' ⟨[(1, (.pv (.int .i64)))], []⟩ y)) (fun y => κ.ret (SSh.mk' ⟨[(4, (.pv (.int .i64)))], []⟩ y))⟩]
theorem L44_2 : RoundEq E44 L44 L44[0] (nthLoop (codeOf Tryz.f44) 0) := fun κ N x => by kernel_rfl
theorem C44_ok : QuietOk Tryz.prog 44 C44 := tQ E44 L44 [nthLoop (codeOf Tryz.f44) 0] Tryz.func44 ty_ok (.cons C67_ok (.cons C90_ok .nil)) (.cons L44[0] (by kernel_rfl) L44_2 .nil)
noncomputable def F45_R2 (e0_0 : Int × Unit → Option (Int × Unit)) (er_1 : Int × Unit → Option (Int × Unit)) (rec : List (D108) × Int × Int × Unit → Option (Int × Unit)) (x2 : List (D108) × Int × Int × Unit) : Option (Int × Unit) :=
 (cond (decide (x2.2.2.1 < (((List.length x2.1) : Nat) : Int)))
 (gd (decide ((0 : Int) ≤ x2.2.2.1))
 (Option.bind x2.1[(Int.toNat x2.2.2.1)]? fun y6 =>
 (Option.bind (F67 x2.2.1) fun y7 =>
 (cond (!(y6.1.1 == y7.1))
 (er_1 ((-(1 : Int)), ()))
 (gd (decide ((0 : Int) ≤ x2.2.2.1))
 (Option.bind x2.1[(Int.toNat x2.2.2.1)]? fun y9 =>
 (cond (y9.1.2.1 != (IntKind.wrap IntKind.i64 (x2.2.1 + (1 : Int))))
 (er_1 ((-(1 : Int)), ()))
 (gd (decide ((0 : Int) ≤ x2.2.2.1))
 (Option.bind x2.1[(Int.toNat x2.2.2.1)]? fun y11 =>
 (cond (!(y11.1.2.2.1 == ((Int.tmod (IntKind.wrap IntKind.i64 ((IntKind.wrap IntKind.i64 (x2.2.1 + (1 : Int))) + (1 : Int))) (3 : Int)) == (0 : Int))))
 (er_1 ((-(1 : Int)), ()))
 (gd (decide ((0 : Int) ≤ x2.2.2.1))
 (Option.bind x2.1[(Int.toNat x2.2.2.1)]? fun y13 =>
 (cond (y13.1.2.2.2.1.1 != (IntKind.wrap IntKind.i64 ((IntKind.wrap IntKind.i64 ((IntKind.wrap IntKind.i64 (x2.2.1 + (1 : Int))) + (1 : Int))) + (1 : Int))))
 (er_1 ((-(1 : Int)), ()))
 (gd (decide ((0 : Int) ≤ x2.2.2.1))
 (Option.bind x2.1[(Int.toNat x2.2.2.1)]? fun y15 =>
 (cond (y15.1.2.2.2.1.2.1 != (IntKind.wrap IntKind.i64 ((IntKind.wrap IntKind.i64 ((IntKind.wrap IntKind.i64 ((IntKind.wrap IntKind.i64 (x2.2.1 + (1 : Int))) + (1 : Int))) + (1 : Int))) + (1 : Int))))
 (er_1 ((-(1 : Int)), ()))
 (gd (decide ((0 : Int) ≤ x2.2.2.1))
 (Option.bind x2.1[(Int.toNat x2.2.2.1)]? fun y17 =>
 (Option.bind (F67 (IntKind.wrap IntKind.i64 ((IntKind.wrap IntKind.i64 ((IntKind.wrap IntKind.i64 ((IntKind.wrap IntKind.i64 ((IntKind.wrap IntKind.i64 (x2.2.1 + (1 : Int))) + (1 : Int))) + (1 : Int))) + (1 : Int))) + (1 : Int)))) fun y18 =>
 (cond (!(y17.1.2.2.2.1.2.2.1 == y18.1))
 (er_1 ((-(1 : Int)), ()))
 (gd (decide ((0 : Int) ≤ x2.2.2.1))
 (Option.bind x2.1[(Int.toNat x2.2.2.1)]? fun y20 =>
 (cond (y20.2.1.1 != (IntKind.wrap IntKind.i64 ((IntKind.wrap IntKind.i64 ((IntKind.wrap IntKind.i64 ((IntKind.wrap IntKind.i64 ((IntKind.wrap IntKind.i64 ((IntKind.wrap IntKind.i64 (x2.2.1 + (1 : Int))) + (1 : Int))) + (1 : Int))) + (1 : Int))) + (1 : Int))) + (1 : Int))))
 (er_1 ((-(1 : Int)), ()))
 (gd (decide ((0 : Int) ≤ x2.2.2.1))
 (Option.bind x2.1[(Int.toNat x2.2.2.1)]? fun y22 =>
 (cond (y22.2.1.2.1 != (IntKind.wrap IntKind.i64 ((IntKind.wrap IntKind.i64 ((IntKind.wrap IntKind.i64 ((IntKind.wrap IntKind.i64 ((IntKind.wrap IntKind.i64 ((IntKind.wrap IntKind.i64 ((IntKind.wrap IntKind.i64 (x2.2.1 + (1 : Int))) + (1 : Int))) + (1 : Int))) + (1 : Int))) + (1 : Int))) + (1 : Int))) + (1 : Int))))
 (er_1 ((-(1 : Int)), ()))
 (gd (decide ((0 : Int) ≤ x2.2.2.1))
 (Option.bind x2.1[(Int.toNat x2.2.2.1)]? fun y24 =>
 (Option.bind (F67 (IntKind.wrap IntKind.i64 ((IntKind.wrap IntKind.i64 ((IntKind.wrap IntKind.i64 ((IntKind.wrap IntKind.i64 ((IntKind.wrap IntKind.i64 ((IntKind.wrap IntKind.i64 ((IntKind.wrap IntKind.i64 ((IntKind.wrap IntKind.i64 (x2.2.1 + (1 : Int))) + (1 : Int))) + (1 : Int))) + (1 : Int))) + (1 : Int))) + (1 : Int))) + (1 : Int))) + (1 : Int)))) fun y25 =>
 (cond (!(y24.2.1.2.2.1 == y25.1))
 (er_1 ((-(1 : Int)), ()))
 (gd (decide ((0 : Int) ≤ x2.2.2.1))
 (Option.bind x2.1[(Int.toNat x2.2.2.1)]? fun y27 =>
 (cond (!(y27.2.2.1 == ((Int.tmod (IntKind.wrap IntKind.i64 ((IntKind.wrap IntKind.i64 ((IntKind.wrap IntKind.i64 ((IntKind.wrap IntKind.i64 ((IntKind.wrap IntKind.i64 ((IntKind.wrap IntKind.i64 ((IntKind.wrap IntKind.i64 ((IntKind.wrap IntKind.i64 ((IntKind.wrap IntKind.i64 (x2.2.1 + (1 : Int))) + (1 : Int))) + (1 : Int))) + (1 : Int))) + (1 : Int))) + (1 : Int))) + (1 : Int))) + (1 : Int))) + (1 : Int))) (3 : Int)) == (0 : Int))))
 (er_1 ((-(1 : Int)), ()))
 (rec (x2.1, (IntKind.wrap IntKind.i64 ((IntKind.wrap IntKind.i64 ((IntKind.wrap IntKind.i64 ((IntKind.wrap IntKind.i64 ((IntKind.wrap IntKind.i64 ((IntKind.wrap IntKind.i64 ((IntKind.wrap IntKind.i64 ((IntKind.wrap IntKind.i64 ((IntKind.wrap IntKind.i64 ((IntKind.wrap IntKind.i64 (x2.2.1 + (1 : Int))) + (1 : Int))) + (1 : Int))) + (1 : Int))) + (1 : Int))) + (1 : Int))) + (1 : Int))) + (1 : Int))) + (1 : Int))) + (1 : Int))), (IntKind.wrap IntKind.i64 (x2.2.2.1 + (1 : Int))), ())))))))))))))))))))))))))))))))))))
 (e0_0 (x2.2.1, ())))
noncomputable def F45 (a0 : List (D108)) (a1 : Int) : Option (Int × Unit) :=
 (iter (F45_R2
 (fun y28 =>
 (some (y28.1, ())))
 (fun y29 =>
 (some (y29.1, ())))) fuel (a0, a1, (0 : Int), ()))
noncomputable def C45 : Fun := ⟨[(.ro (.slice Y108)), (.ro (.int .i64))], [((.int .i64), .z)], fun z => F45 z.1 z.2.1⟩
noncomputable def E45 : Env := ⟨122, tyTab tys, oneTab ones, fnTab [(67, C67)], false, [], [(2, [0, 1, 5], []), (3, [0, 1, 5], []), (4, [0, 1, 5], []), (6, [0, 1, 5], []), (9, [0, 1, 5], []), (12, [0, 1, 5], []), (15, [0, 1, 5], []), (18, [0, 1, 5], []), (21, [0, 1, 5], []), (24, [0, 1, 5], []), (27, [0, 1, 5], []), (30, [0, 1, 5], []), (33, [0, 1, 5], []), (34, [1], []), (100000, [1], []), (100001, [0, 1, 5], []), (99999, [4], [])], none, [], []⟩
noncomputable def L45 : List (LoopS (Int × Unit)) := [⟨2, ⟨[(0, (.pv (.slice Y108))), (1, (.pv (.int .i64))), (5, (.pv (.int .i64)))], []⟩, fun κ => F45_R2 (fun y => κ.exit 0 (SSh.mk' ⟨[(1, (.pv (.int .i64)))], []⟩ y)) (fun y => κ.ret (SSh.mk' ⟨[(4, (.pv (.int .i64)))], []⟩ y))⟩]
theorem L45_2 : RoundEq E45 L45 L45[0] (nthLoop (codeOf Tryz.f45) 0) := fun κ N x => by kernel_rfl
theorem C45_ok : QuietOk Tryz.prog 45 C45 := tQ E45 L45 [nthLoop (codeOf Tryz.f45) 0] Tryz.func45 ty_ok (.cons C67_ok .nil) (.cons L45[0] (by kernel_rfl) L45_2 .nil)
noncomputable def F15_R2 (e0_0 : Int × Unit → Option (Int × Unit)) (er_1 : Int × Unit → Option (Int × Unit)) (rec : List (D25) × Int × Int × Unit → Option (Int × Unit)) (x2 : List (D25) × Int × Int × Unit) : Option (Int × Unit) :=
 (cond (decide (x2.2.2.1 < (((List.length x2.1) : Nat) : Int)))
 (gd (decide ((0 : Int) ≤ x2.2.2.1))
 (Option.bind x2.1[(Int.toNat x2.2.2.1)]? fun y6 =>
 (cond (y6.1 != x2.2.1)
 (er_1 ((-(1 : Int)), ()))
 (gd (decide ((0 : Int) ≤ x2.2.2.1))
 (Option.bind x2.1[(Int.toNat x2.2.2.1)]? fun y8 =>
 (cond (y8.2.1 != (IntKind.wrap IntKind.i64 (x2.2.1 + (1 : Int))))
 (er_1 ((-(1 : Int)), ()))
 (gd (decide ((0 : Int) ≤ x2.2.2.1))
 (Option.bind x2.1[(Int.toNat x2.2.2.1)]? fun y9 =>
 (Option.bind (F44 y9.2.2.1 (IntKind.wrap IntKind.i64 ((IntKind.wrap IntKind.i64 (x2.2.1 + (1 : Int))) + (1 : Int)))) fun y10 =>
 (cond (decide (y10.1 < (0 : Int)))
 (er_1 ((-(1 : Int)), ()))
 (gd (decide ((0 : Int) ≤ x2.2.2.1))
 (Option.bind x2.1[(Int.toNat x2.2.2.1)]? fun y12 =>
 (Option.bind (F45 y12.2.2.2.1 y10.1) fun y13 =>
 (cond (decide (y13.1 < (0 : Int)))
 (er_1 ((-(1 : Int)), ()))
 (gd (decide ((0 : Int) ≤ x2.2.2.1))
 (Option.bind x2.1[(Int.toNat x2.2.2.1)]? fun y16 =>
 (cond (!(y16.2.2.2.2.1 == ((Int.tmod y13.1 (3 : Int)) == (0 : Int))))
 (er_1 ((-(1 : Int)), ()))
 (gd (decide ((0 : Int) ≤ x2.2.2.1))
 (Option.bind x2.1[(Int.toNat x2.2.2.1)]? fun y18 =>
 (cond (!(y18.2.2.2.2.2.1 == ((Int.tmod (IntKind.wrap IntKind.i64 (y13.1 + (1 : Int))) (3 : Int)) == (0 : Int))))
 (er_1 ((-(1 : Int)), ()))
 (rec (x2.1, (IntKind.wrap IntKind.i64 ((IntKind.wrap IntKind.i64 (y13.1 + (1 : Int))) + (1 : Int))), (IntKind.wrap IntKind.i64 (x2.2.2.1 + (1 : Int))), ()))))))))))))))))))))))
 (e0_0 (x2.2.1, ())))
noncomputable def F15 (a0 : List (D25)) (a1 : Int) : Option (Int × Unit) :=
 (iter (F15_R2
 (fun y19 =>
 (some (y19.1, ())))
 (fun y20 =>
 (some (y20.1, ())))) fuel (a0, a1, (0 : Int), ()))
noncomputable def C15 : Fun := ⟨[(.ro (.slice Y25)), (.ro (.int .i64))], [((.int .i64), .z)], fun z => F15 z.1 z.2.1⟩
noncomputable def E15 : Env := ⟨71, tyTab tys, oneTab ones, fnTab [(44, C44), (45, C45)], false, [], [(2, [0, 1, 5], []), (3, [0, 1, 5], []), (4, [0, 1, 5], []), (6, [0, 1, 5], []), (9, [0, 1, 5], []), (13, [0, 1, 5], []), (16, [0, 1, 5], []), (18, [0, 1, 5], []), (21, [0, 1, 5], []), (22, [1], []), (100000, [1], []), (100001, [0, 1, 5], []), (99999, [4], [])], none, [], []⟩
noncomputable def L15 : List (LoopS (Int × Unit)) := [⟨2, ⟨[(0, (.pv (.slice Y25))), (1, (.pv (.int .i64))), (5, (.pv (.int .i64)))], []⟩, fun κ => F15_R2 (fun y => κ.exit 0 (SSh.mk' ⟨[(1, (.pv (.int .i64)))], []⟩ y)) (fun y => κ.ret (SSh.mk' ⟨[(4, (.pv (.int .i64)))], []⟩ y))⟩]
theorem L15_2 : RoundEq E15 L15 L15[0] (nthLoop (codeOf Tryz.f15) 0) := fun κ N x => by kernel_rfl
theorem C15_ok : QuietOk Tryz.prog 15 C15 := tQ E15 L15 [nthLoop (codeOf Tryz.f15) 0] Tryz.func15 ty_ok (.cons C44_ok (.cons C45_ok .nil)) (.cons L15[0] (by kernel_rfl) L15_2 .nil)
noncomputable def F3 (a0 : List (D25)) (a1 : D25) : Option (Bool × Unit) :=
 (Option.bind (F5 a0 (1048576 : Int)) fun y0 =>
 (cond (decide (y0.1 < (0 : Int)))
 (some (true, ()))
 (Option.bind (F6 a1 y0.1) fun y2 =>
 (cond (decide (y2.1 < (0 : Int)))
 (some (true, ()))
 (Option.bind (F8 a0) fun y4 =>
 (Option.bind (F9 a1) fun y5 =>
 (Option.bind (F7 y4.1 y5.1) fun y6 =>
 (Option.bind (F8 a0) fun y7 =>
 (Option.bind (F9 a1) fun y8 =>
 (Option.bind (F10 y7.1 y8.1) fun y9 =>
 (Option.bind (F11 y9.1 y6.1) fun y11 =>
 (cond (!y11.1)
 (some (false, ()))
 (cond (y9.2.1 != y6.2.1)
 (some (false, ()))
 (Option.bind (F8 a0) fun y13 =>
 (Option.bind (F11 y7.1 y13.1) fun y14 =>
 (cond (!y14.1)
 (some (false, ()))
 (Option.bind (F9 a1) fun y16 =>
 (Option.bind (F12 y8.1 y16.1) fun y17 =>
 (cond (!y17.1)
 (some (false, ()))
 (Option.bind (F13 y7.1 (1 : Int)) fun y18 =>
 (Option.bind (F14 y8.1 y18.1) fun y19 =>
 (cond (decide (y19.1 < (0 : Int)))
 (some (false, ()))
 (Option.bind (F11 y9.1 y6.1) fun y21 =>
 (cond (!y21.1)
 (some (false, ()))
 (cond (y9.2.1 != y6.2.1)
 (some (false, ()))
 (Option.bind (F13 y9.1 (1 : Int)) fun y22 =>
 (Option.bind (F15 y22.2.1 (1 : Int)) fun y23 =>
 (cond (decide (y23.1 < (0 : Int)))
 (some (false, ()))
 (cond (y23.1 != y22.1)
 (some (false, ()))
 (Option.bind (F8 a0) fun y26 =>
 (Option.bind (F9 a1) fun y27 =>
 (Option.bind (F10 y26.1 y27.1) fun y28 =>
 (Option.bind (F11 y28.1 y6.1) fun y30 =>
 (cond (!y30.1)
 (some (false, ()))
 (cond (y28.2.1 != y6.2.1)
 (some (false, ()))
 (Option.bind (F15 y22.2.1 (1 : Int)) fun y31 =>
 (cond (decide (y31.1 < (0 : Int)))
 (some (false, ()))
 (cond (y31.1 != y22.1)
 (some (false, ()))
 (some (true, ()))))))))))))))))))))))))))))))))))))))))
noncomputable def C3 : Fun := ⟨[(.ro (.slice Y25)), (.ro Y25)], [(.bool, .z)], fun z => F3 z.1 z.2.1⟩
noncomputable def E3 : Env := ⟨119, tyTab tys, oneTab ones, fnTab [(5, C5), (6, C6), (7, C7), (8, C8), (9, C9), (10, C10), (11, C11), (12, C12), (13, C13), (14, C14), (15, C15)], false, [], [(5, [0, 3, 5], []), (8, [0, 3], []), (14, [0, 3, 6, 7, 8, 9, 10, 11], []), (16, [0, 3, 6, 7, 8, 9, 10, 11], []), (18, [0, 3, 6, 7, 8, 9, 10, 11], []), (23, [0, 3, 6, 7, 10], []), (29, [0, 3, 6, 7, 10, 13, 14], []), (31, [0, 3, 6, 7, 10, 13], []), (34, [10, 13], []), (38, [13, 14], []), (40, [], []), (99999, [4], [])], none, [], []⟩
noncomputable def L3 : List (LoopS (Bool × Unit)) := []
theorem C3_ok : QuietOk Tryz.prog 3 C3 := tQ E3 L3 [] Tryz.func3 ty_ok (.cons C5_ok (.cons C6_ok (.consFr C7_ok (.consFr C8_ok (.consFr C9_ok (.consFr C10_ok (.cons C11_ok (.cons C12_ok (.consIo C13_ok (.consIo C14_ok (.cons C15_ok .nil))))))))))) .nil
end Go.V
