/- What functions of the program compute, printed by a program of ours. No condition. -/
import Derived.Test.YtaghikdjjoaebaaGreatDoorWF4
namespace Go.V
open Go.Proofs
set_option maxRecDepth 100000
set_option linter.unusedVariables false
noncomputable def F22_R4 (e0_0 : Unit → Option (Bool × Unit)) (er_1 : Bool × Unit → Option (Bool × Unit)) (rec : List (D48) × List (D48) × Int × Unit → Option (Bool × Unit)) (x3 : List (D48) × List (D48) × Int × Unit) : Option (Bool × Unit) :=
 (cond (decide (x3.2.2.1 < (((List.length x3.1) : Nat) : Int)))
 (gd (decide ((0 : Int) ≤ x3.2.2.1))
 (Option.bind x3.1[(Int.toNat x3.2.2.1)]? fun y6 =>
 (gd (decide ((0 : Int) ≤ x3.2.2.1))
 (Option.bind x3.2.1[(Int.toNat x3.2.2.1)]? fun y7 =>
 (Option.bind (F45 y6 y7) fun y8 =>
 (cond (!y8.1)
 (er_1 (false, ()))
 (rec (x3.1, x3.2.1, (IntKind.wrap IntKind.i64 (x3.2.2.1 + (1 : Int))), ()))))))))
 (e0_0 (())))
noncomputable def F22 (a0 : List (D48)) (a1 : List (D48)) : Option (Bool × Unit) :=
 (cond ((((List.length a0) : Nat) : Int) != (((List.length a1) : Nat) : Int))
 (some (false, ()))
 (iter (F22_R4
 (fun y9 =>
 (some (true, ())))
 (fun y10 =>
 (some (y10.1, ())))) fuel (a0, a1, (0 : Int), ())))
noncomputable def C22 : Fun := ⟨[(.ro (.slice Y48)), (.ro (.slice Y48))], [(.bool, .z)], fun z => F22 z.1 z.2.1⟩
noncomputable def E22 : Env := ⟨27, tyTab tys, oneTab ones, fnTab [(45, C45)], false, [], [(3, [0, 1], []), (4, [0, 1, 5], []), (5, [0, 1, 5], []), (6, [0, 1, 5], []), (8, [], []), (100000, [], []), (100001, [0, 1, 5], []), (99999, [4], [])], none, []⟩
noncomputable def L22 : List (LoopS (Bool × Unit)) := [⟨4, ⟨[(0, (.pv (.slice Y48))), (1, (.pv (.slice Y48))), (5, (.pv (.int .i64)))], []⟩, fun κ => F22_R4 (fun y => κ.exit 0 (SSh.mk' ⟨[], []⟩ y)) (fun y => κ.ret (SSh.mk' ⟨[(4, (.pv .bool))], []⟩ y))⟩]
theorem L22_4 : RoundEq E22 L22 L22[0] (nthLoop (codeOf Tryz.f22) 0) := fun κ N x => by kernel_rfl
theorem C22_ok : QuietOk Tryz.prog 22 C22 := tQ E22 L22 [nthLoop (codeOf Tryz.f22) 0] Tryz.func22 ty_ok (.cons C45_ok .nil) (.cons L22[0] (by kernel_rfl) L22_4 .nil)
noncomputable def F118 (a0 : D142) (a1 : D142) : Option (Bool × Unit) :=
 (Option.bind (F117 a0.1 a1.1) fun y1 =>
 (cond (!y1.1)
 (some (false, ()))
 (Option.bind (F153 a0.2.1 a1.2.1) fun y3 =>
 (cond (!y3.1)
 (some (false, ()))
 (cond (!(a0.2.2.1 == a1.2.2.1))
 (some (false, ()))
 (some (true, ())))))))
noncomputable def C118 : Fun := ⟨[(.ro Y142), (.ro Y142)], [(.bool, .z)], fun z => F118 z.1 z.2.1⟩
noncomputable def E118 : Env := ⟨22, tyTab tys, oneTab ones, fnTab [(117, C117), (153, C153)], false, [], [(3, [2, 3], []), (5, [2, 3], []), (7, [], []), (99999, [4], [])], none, []⟩
noncomputable def L118 : List (LoopS (Bool × Unit)) := []
theorem C118_ok : QuietOk Tryz.prog 118 C118 := tQ E118 L118 [] Tryz.func118 ty_ok (.cons C117_ok (.cons C153_ok .nil)) .nil
noncomputable def F79_R4 (e0_0 : Unit → Option (Bool × Unit)) (er_1 : Bool × Unit → Option (Bool × Unit)) (rec : List (D142) × List (D142) × Int × Unit → Option (Bool × Unit)) (x3 : List (D142) × List (D142) × Int × Unit) : Option (Bool × Unit) :=
 (cond (decide (x3.2.2.1 < (((List.length x3.1) : Nat) : Int)))
 (gd (decide ((0 : Int) ≤ x3.2.2.1))
 (Option.bind x3.1[(Int.toNat x3.2.2.1)]? fun y6 =>
 (gd (decide ((0 : Int) ≤ x3.2.2.1))
 (Option.bind x3.2.1[(Int.toNat x3.2.2.1)]? fun y7 =>
 (Option.bind (F118 y6 y7) fun y8 =>
 (cond (!y8.1)
 (er_1 (false, ()))
 (rec (x3.1, x3.2.1, (IntKind.wrap IntKind.i64 (x3.2.2.1 + (1 : Int))), ()))))))))
 (e0_0 (())))
noncomputable def F79 (a0 : List (D142)) (a1 : List (D142)) : Option (Bool × Unit) :=
 (cond ((((List.length a0) : Nat) : Int) != (((List.length a1) : Nat) : Int))
 (some (false, ()))
 (iter (F79_R4
 (fun y9 =>
 (some (true, ())))
 (fun y10 =>
 (some (y10.1, ())))) fuel (a0, a1, (0 : Int), ())))
noncomputable def C79 : Fun := ⟨[(.ro (.slice Y142)), (.ro (.slice Y142))], [(.bool, .z)], fun z => F79 z.1 z.2.1⟩
noncomputable def E79 : Env := ⟨27, tyTab tys, oneTab ones, fnTab [(118, C118)], false, [], [(3, [0, 1], []), (4, [0, 1, 5], []), (5, [0, 1, 5], []), (6, [0, 1, 5], []), (8, [], []), (100000, [], []), (100001, [0, 1, 5], []), (99999, [4], [])], none, []⟩
noncomputable def L79 : List (LoopS (Bool × Unit)) := [⟨4, ⟨[(0, (.pv (.slice Y142))), (1, (.pv (.slice Y142))), (5, (.pv (.int .i64)))], []⟩, fun κ => F79_R4 (fun y => κ.exit 0 (SSh.mk' ⟨[], []⟩ y)) (fun y => κ.ret (SSh.mk' ⟨[(4, (.pv .bool))], []⟩ y))⟩]
theorem L79_4 : RoundEq E79 L79 L79[0] (nthLoop (codeOf Tryz.f79) 0) := fun κ N x => by kernel_rfl
theorem C79_ok : QuietOk Tryz.prog 79 C79 := tQ E79 L79 [nthLoop (codeOf Tryz.f79) 0] Tryz.func79 ty_ok (.cons C118_ok .nil) (.cons L79[0] (by kernel_rfl) L79_4 .nil)
noncomputable def F46 (a0 : D71) (a1 : D71) : Option (Bool × Unit) :=
 (cond (a0.1 != a1.1)
 (some (false, ()))
 (cond (a0.2.1 != a1.2.1)
 (some (false, ()))
 (Option.bind (F77 a0.2.2.1 a1.2.2.1) fun y3 =>
 (cond (!y3.1)
 (some (false, ()))
 (Option.bind (F79 a0.2.2.2.1 a1.2.2.2.1) fun y5 =>
 (cond (!y5.1)
 (some (false, ()))
 (cond (!(a0.2.2.2.2.1 == a1.2.2.2.2.1))
 (some (false, ()))
 (cond (!(a0.2.2.2.2.2.1 == a1.2.2.2.2.2.1))
 (some (false, ()))
 (some (true, ()))))))))))
noncomputable def C46 : Fun := ⟨[(.ro Y71), (.ro Y71)], [(.bool, .z)], fun z => F46 z.1 z.2.1⟩
noncomputable def E46 : Env := ⟨37, tyTab tys, oneTab ones, fnTab [(77, C77), (79, C79)], false, [], [(3, [2, 3], []), (5, [2, 3], []), (7, [2, 3], []), (9, [2, 3], []), (11, [2, 3], []), (13, [], []), (99999, [4], [])], none, []⟩
noncomputable def L46 : List (LoopS (Bool × Unit)) := []
theorem C46_ok : QuietOk Tryz.prog 46 C46 := tQ E46 L46 [] Tryz.func46 ty_ok (.cons C77_ok (.cons C79_ok .nil)) .nil
noncomputable def F23_R4 (e0_0 : Unit → Option (Bool × Unit)) (er_1 : Bool × Unit → Option (Bool × Unit)) (rec : List (D71) × List (D71) × Int × Unit → Option (Bool × Unit)) (x3 : List (D71) × List (D71) × Int × Unit) : Option (Bool × Unit) :=
 (cond (decide (x3.2.2.1 < (((List.length x3.1) : Nat) : Int)))
 (gd (decide ((0 : Int) ≤ x3.2.2.1))
 (Option.bind x3.1[(Int.toNat x3.2.2.1)]? fun y6 =>
 (gd (decide ((0 : Int) ≤ x3.2.2.1))
 (Option.bind x3.2.1[(Int.toNat x3.2.2.1)]? fun y7 =>
 (Option.bind (F46 y6 y7) fun y8 =>
 (cond (!y8.1)
 (er_1 (false, ()))
 (rec (x3.1, x3.2.1, (IntKind.wrap IntKind.i64 (x3.2.2.1 + (1 : Int))), ()))))))))
 (e0_0 (())))
noncomputable def F23 (a0 : List (D71)) (a1 : List (D71)) : Option (Bool × Unit) :=
 (cond ((((List.length a0) : Nat) : Int) != (((List.length a1) : Nat) : Int))
 (some (false, ()))
 (iter (F23_R4
 (fun y9 =>
 (some (true, ())))
 (fun y10 =>
 (some (y10.1, ())))) fuel (a0, a1, (0 : Int), ())))
noncomputable def C23 : Fun := ⟨[(.ro (.slice Y71)), (.ro (.slice Y71))], [(.bool, .z)], fun z => F23 z.1 z.2.1⟩
noncomputable def E23 : Env := ⟨27, tyTab tys, oneTab ones, fnTab [(46, C46)], false, [], [(3, [0, 1], []), (4, [0, 1, 5], []), (5, [0, 1, 5], []), (6, [0, 1, 5], []), (8, [], []), (100000, [], []), (100001, [0, 1, 5], []), (99999, [4], [])], none, []⟩
noncomputable def L23 : List (LoopS (Bool × Unit)) := [⟨4, ⟨[(0, (.pv (.slice Y71))), (1, (.pv (.slice Y71))), (5, (.pv (.int .i64)))], []⟩, fun κ => F23_R4 (fun y => κ.exit 0 (SSh.mk' ⟨[], []⟩ y)) (fun y => κ.ret (SSh.mk' ⟨[(4, (.pv .bool))], []⟩ y))⟩]
theorem L23_4 : RoundEq E23 L23 L23[0] (nthLoop (codeOf Tryz.f23) 0) := fun κ N x => by kernel_rfl
theorem C23_ok : QuietOk Tryz.prog 23 C23 := tQ E23 L23 [nthLoop (codeOf Tryz.f23) 0] Tryz.func23 ty_ok (.cons C46_ok .nil) (.cons L23[0] (by kernel_rfl) L23_4 .nil)
noncomputable def F9 (a0 : D25) (a1 : D25) : Option (Bool × Unit) :=
 (Option.bind (F21 a0.1 a1.1) fun y1 =>
 (cond (!y1.1)
 (some (false, ()))
 (Option.bind (F22 a0.2.1 a1.2.1) fun y3 =>
 (cond (!y3.1)
 (some (false, ()))
 (Option.bind (F23 a0.2.2.1 a1.2.2.1) fun y5 =>
 (cond (!y5.1)
 (some (false, ()))
 (cond (a0.2.2.2.1 != a1.2.2.2.1)
 (some (false, ()))
 (some (true, ())))))))))
noncomputable def C9 : Fun := ⟨[(.ro Y25), (.ro Y25)], [(.bool, .z)], fun z => F9 z.1 z.2.1⟩
noncomputable def E9 : Env := ⟨28, tyTab tys, oneTab ones, fnTab [(21, C21), (22, C22), (23, C23)], false, [], [(3, [2, 3], []), (5, [2, 3], []), (7, [2, 3], []), (9, [], []), (99999, [4], [])], none, []⟩
noncomputable def L9 : List (LoopS (Bool × Unit)) := []
theorem C9_ok : QuietOk Tryz.prog 9 C9 := tQ E9 L9 [] Tryz.func9 ty_ok (.cons C21_ok (.cons C22_ok (.cons C23_ok .nil))) .nil
noncomputable def F47_R4 (e0_0 : List UInt8 × Unit → Option (List UInt8 × Unit)) (rec : Int × List UInt8 × Unit → Option (List UInt8 × Unit)) (x3 : Int × List UInt8 × Unit) : Option (List UInt8 × Unit) :=
 (cond (decide (x3.1 > (0 : Int)))
 (gd (decide (((List.length (List.map (fun (v8 : Int) => (UInt8.ofNat (Int.toNat v8))) [(IntKind.wrap IntKind.u8 (IntKind.wrap IntKind.i64 ((48 : Int) + (Int.tmod x3.1 (10 : Int)))))])) + (List.length x3.2.1)) ≤ 9223372036854775807))
 (rec ((IntKind.wrap IntKind.i64 (Int.tdiv x3.1 (10 : Int))), ((List.map (fun (v8 : Int) => (UInt8.ofNat (Int.toNat v8))) [(IntKind.wrap IntKind.u8 (IntKind.wrap IntKind.i64 ((48 : Int) + (Int.tmod x3.1 (10 : Int)))))]) ++ x3.2.1), ())))
 (e0_0 (x3.2.1, ())))
noncomputable def F47 (a0 : Int) : Option (List UInt8 × Unit) :=
 (cond (decide (a0 ≤ (0 : Int)))
 (some ([(109 : UInt8), (48 : UInt8)], ()))
 (iter (F47_R4
 (fun y5 =>
 (gd (decide (((List.length ([(109 : UInt8)] : List UInt8)) + (List.length y5.1)) ≤ 9223372036854775807))
 (some (([(109 : UInt8)] ++ y5.1), ()))))) fuel (a0, [], ())))
noncomputable def C47 : Fun := ⟨[(.ro (.int .i64))], [(.str, .z)], fun z => F47 z.1⟩
noncomputable def E47 : Env := ⟨20, tyTab tys, oneTab ones, fnTab [], false, [], [(3, [0], []), (4, [0, 3], []), (5, [0, 3], []), (7, [3], []), (100000, [3], []), (100001, [0, 3], []), (99999, [2], [])], none, []⟩
noncomputable def L47 : List (LoopS (List UInt8 × Unit)) := [⟨4, ⟨[(0, (.pv (.int .i64))), (3, (.pv .str))], []⟩, fun κ => F47_R4 (fun y => κ.exit 0 (SSh.mk' ⟨[(3, (.pv .str))], []⟩ y))⟩]
theorem L47_4 : RoundEq E47 L47 L47[0] (nthLoop (codeOf Tryz.f47) 0) := fun κ N x => by kernel_rfl
theorem C47_ok : QuietOk Tryz.prog 47 C47 := tQ E47 L47 [nthLoop (codeOf Tryz.f47) 0] Tryz.func47 ty_ok .nil (.cons L47[0] (by kernel_rfl) L47_4 .nil)
noncomputable def F80_R2 (e0_0 : Int × List (D85) × Unit → Option (Int × List (D85) × Unit)) (rec : Int × Int × List (D85) × Unit → Option (Int × List (D85) × Unit)) (x2 : Int × Int × List (D85) × Unit) : Option (Int × List (D85) × Unit) :=
 (cond (decide (x2.2.1 < (((List.length x2.2.2.1) : Nat) : Int)))
 (gd (decide ((0 : Int) ≤ x2.2.1))
 (gd (decide (x2.2.1 < (((List.length x2.2.2.1) : Nat) : Int)))
 (Option.bind x2.2.2.1[(Int.toNat x2.2.1)]? fun y4 =>
 (gd (decide ((0 : Int) ≤ x2.2.1))
 (gd (decide (x2.2.1 < (((List.length (List.set x2.2.2.1 (Int.toNat x2.2.1) (x2.1, y4.2))) : Nat) : Int)))
 (Option.bind (List.set x2.2.2.1 (Int.toNat x2.2.1) (x2.1, y4.2))[(Int.toNat x2.2.1)]? fun y5 =>
 (gd (decide ((0 : Int) ≤ x2.2.1))
 (gd (decide (x2.2.1 < (((List.length (List.set (List.set x2.2.2.1 (Int.toNat x2.2.1) (x2.1, y4.2)) (Int.toNat x2.2.1) (y5.1, (((Int.tmod (IntKind.wrap IntKind.i64 (x2.1 + (1 : Int))) (3 : Int)) == (0 : Int)), y5.2.2)))) : Nat) : Int)))
 (Option.bind (List.set (List.set x2.2.2.1 (Int.toNat x2.2.1) (x2.1, y4.2)) (Int.toNat x2.2.1) (y5.1, (((Int.tmod (IntKind.wrap IntKind.i64 (x2.1 + (1 : Int))) (3 : Int)) == (0 : Int)), y5.2.2)))[(Int.toNat x2.2.1)]? fun y6 =>
 (gd (decide ((0 : Int) ≤ x2.2.1))
 (gd (decide (x2.2.1 < (((List.length (List.set (List.set (List.set x2.2.2.1 (Int.toNat x2.2.1) (x2.1, y4.2)) (Int.toNat x2.2.1) (y5.1, (((Int.tmod (IntKind.wrap IntKind.i64 (x2.1 + (1 : Int))) (3 : Int)) == (0 : Int)), y5.2.2))) (Int.toNat x2.2.1) (y6.1, (y6.2.1, (((IntKind.wrap IntKind.i64 ((IntKind.wrap IntKind.i64 (x2.1 + (1 : Int))) + (1 : Int))), y6.2.2.1.2), y6.2.2.2))))) : Nat) : Int)))
 (Option.bind (List.set (List.set (List.set x2.2.2.1 (Int.toNat x2.2.1) (x2.1, y4.2)) (Int.toNat x2.2.1) (y5.1, (((Int.tmod (IntKind.wrap IntKind.i64 (x2.1 + (1 : Int))) (3 : Int)) == (0 : Int)), y5.2.2))) (Int.toNat x2.2.1) (y6.1, (y6.2.1, (((IntKind.wrap IntKind.i64 ((IntKind.wrap IntKind.i64 (x2.1 + (1 : Int))) + (1 : Int))), y6.2.2.1.2), y6.2.2.2))))[(Int.toNat x2.2.1)]? fun y7 =>
 (Option.bind (F47 (IntKind.wrap IntKind.i64 ((IntKind.wrap IntKind.i64 ((IntKind.wrap IntKind.i64 ((IntKind.wrap IntKind.i64 (x2.1 + (1 : Int))) + (1 : Int))) + (1 : Int))) + (1 : Int)))) fun y8 =>
 (gd (decide ((0 : Int) ≤ x2.2.1))
 (gd (decide (x2.2.1 < (((List.length (List.set (List.set (List.set (List.set x2.2.2.1 (Int.toNat x2.2.1) (x2.1, y4.2)) (Int.toNat x2.2.1) (y5.1, (((Int.tmod (IntKind.wrap IntKind.i64 (x2.1 + (1 : Int))) (3 : Int)) == (0 : Int)), y5.2.2))) (Int.toNat x2.2.1) (y6.1, (y6.2.1, (((IntKind.wrap IntKind.i64 ((IntKind.wrap IntKind.i64 (x2.1 + (1 : Int))) + (1 : Int))), y6.2.2.1.2), y6.2.2.2)))) (Int.toNat x2.2.1) (y7.1, (y7.2.1, ((y7.2.2.1.1, ((IntKind.wrap IntKind.i64 ((IntKind.wrap IntKind.i64 ((IntKind.wrap IntKind.i64 (x2.1 + (1 : Int))) + (1 : Int))) + (1 : Int))), y7.2.2.1.2.2)), y7.2.2.2))))) : Nat) : Int)))
 (Option.bind (List.set (List.set (List.set (List.set x2.2.2.1 (Int.toNat x2.2.1) (x2.1, y4.2)) (Int.toNat x2.2.1) (y5.1, (((Int.tmod (IntKind.wrap IntKind.i64 (x2.1 + (1 : Int))) (3 : Int)) == (0 : Int)), y5.2.2))) (Int.toNat x2.2.1) (y6.1, (y6.2.1, (((IntKind.wrap IntKind.i64 ((IntKind.wrap IntKind.i64 (x2.1 + (1 : Int))) + (1 : Int))), y6.2.2.1.2), y6.2.2.2)))) (Int.toNat x2.2.1) (y7.1, (y7.2.1, ((y7.2.2.1.1, ((IntKind.wrap IntKind.i64 ((IntKind.wrap IntKind.i64 ((IntKind.wrap IntKind.i64 (x2.1 + (1 : Int))) + (1 : Int))) + (1 : Int))), y7.2.2.1.2.2)), y7.2.2.2))))[(Int.toNat x2.2.1)]? fun y9 =>
 (rec ((IntKind.wrap IntKind.i64 ((IntKind.wrap IntKind.i64 ((IntKind.wrap IntKind.i64 ((IntKind.wrap IntKind.i64 ((IntKind.wrap IntKind.i64 (x2.1 + (1 : Int))) + (1 : Int))) + (1 : Int))) + (1 : Int))) + (1 : Int))), (IntKind.wrap IntKind.i64 (x2.2.1 + (1 : Int))), (List.set (List.set (List.set (List.set (List.set x2.2.2.1 (Int.toNat x2.2.1) (x2.1, y4.2)) (Int.toNat x2.2.1) (y5.1, (((Int.tmod (IntKind.wrap IntKind.i64 (x2.1 + (1 : Int))) (3 : Int)) == (0 : Int)), y5.2.2))) (Int.toNat x2.2.1) (y6.1, (y6.2.1, (((IntKind.wrap IntKind.i64 ((IntKind.wrap IntKind.i64 (x2.1 + (1 : Int))) + (1 : Int))), y6.2.2.1.2), y6.2.2.2)))) (Int.toNat x2.2.1) (y7.1, (y7.2.1, ((y7.2.2.1.1, ((IntKind.wrap IntKind.i64 ((IntKind.wrap IntKind.i64 ((IntKind.wrap IntKind.i64 (x2.1 + (1 : Int))) + (1 : Int))) + (1 : Int))), y7.2.2.1.2.2)), y7.2.2.2)))) (Int.toNat x2.2.1) (y9.1, (y9.2.1, ((y9.2.2.1.1, (y9.2.2.1.2.1, (y8.1, y9.2.2.1.2.2.2))), y9.2.2.2)))), ()))))))))))))))))))
 (e0_0 (x2.1, x2.2.2.1, ())))
noncomputable def F80 (a0 : List (D85)) (a1 : Int) : Option (Int × List (D85) × Unit) :=
 (iter (F80_R2
 (fun y10 =>
 (some (y10.1, (y10.2.1, ()))))) fuel (a1, (0 : Int), a0, ()))
noncomputable def C80 : Fun := ⟨[(.io (.slice Y85) (.own .z)), (.ro (.int .i64))], [((.int .i64), .z)], fun z => F80 z.1 z.2.1⟩
noncomputable def E80 : Env := ⟨54, tyTab tys, oneTab ones, fnTab [(47, C47)], false, [], [(2, [0, 1, 5], [4]), (4, [0, 1, 5], [4]), (14, [1], [4]), (100000, [1], [4]), (100001, [0, 1, 5], [4]), (99999, [4], [4])], none, []⟩
noncomputable def L80 : List (LoopS (Int × List (D85) × Unit)) := [⟨2, ⟨[(0, (.ref (.slice Y85) 4 [])), (1, (.pv (.int .i64))), (5, (.pv (.int .i64)))], [(4, (.data false (.slice Y85) (.own .z)))]⟩, fun κ => F80_R2 (fun y => κ.exit 0 (SSh.mk' ⟨[(1, (.pv (.int .i64)))], [(4, (.data false (.slice Y85) (.own .z)))]⟩ y))⟩]
theorem L80_2 : ∀ p : Option Src, RoundEq { E80 with pin := p } L80 L80[0] (nthLoop (codeOf Tryz.f80) 0) := fun p κ N x => by kernel_rfl
theorem C80_ok : IoOk Tryz.prog 80 C80 := tO E80 L80 [nthLoop (codeOf Tryz.f80) 0] Tryz.func80 ty_ok (.cons C47_ok .nil) (fun p => (.cons L80[0] (by kernel_rfl) (L80_2 p) .nil))
noncomputable def F48_R2 (e0_0 : Int × List (D81) × Unit → Option (Int × List (D81) × Unit)) (rec : Int × Int × List (D81) × Unit → Option (Int × List (D81) × Unit)) (x2 : Int × Int × List (D81) × Unit) : Option (Int × List (D81) × Unit) :=
 (cond (decide (x2.2.1 < (((List.length x2.2.2.1) : Nat) : Int)))
 (gd (decide ((0 : Int) ≤ x2.2.1))
 (gd (decide (x2.2.1 < (((List.length x2.2.2.1) : Nat) : Int)))
 (Option.bind x2.2.2.1[(Int.toNat x2.2.1)]? fun y4 =>
 (gd (decide ((0 : Int) ≤ x2.2.1))
 (gd (decide (x2.2.1 < (((List.length (List.set x2.2.2.1 (Int.toNat x2.2.1) (x2.1, y4.2))) : Nat) : Int)))
 (Option.bind (List.set x2.2.2.1 (Int.toNat x2.2.1) (x2.1, y4.2))[(Int.toNat x2.2.1)]? fun y5 =>
 (Option.bind (List.set x2.2.2.1 (Int.toNat x2.2.1) (x2.1, y4.2))[(Int.toNat x2.2.1)]? fun y6 =>
 (Option.bind (F80 y6.2.1 (IntKind.wrap IntKind.i64 (x2.1 + (1 : Int)))) fun y7 =>
 (Option.bind (List.set x2.2.2.1 (Int.toNat x2.2.1) (x2.1, y4.2))[(Int.toNat x2.2.1)]? fun y8 =>
 (rec (y7.1, (IntKind.wrap IntKind.i64 (x2.2.1 + (1 : Int))), (List.set (List.set x2.2.2.1 (Int.toNat x2.2.1) (x2.1, y4.2)) (Int.toNat x2.2.1) (y8.1, (y7.2.1, y8.2.2))), ())))))))))))
 (e0_0 (x2.1, x2.2.2.1, ())))
noncomputable def F48 (a0 : List (D81)) (a1 : Int) : Option (Int × List (D81) × Unit) :=
 (iter (F48_R2
 (fun y9 =>
 (some (y9.1, (y9.2.1, ()))))) fuel (a1, (0 : Int), a0, ()))
noncomputable def C48 : Fun := ⟨[(.io (.slice Y81) (.own (.pr .z (.pr (.own .z) .z)))), (.ro (.int .i64))], [((.int .i64), .z)], fun z => F48 z.1 z.2.1⟩
noncomputable def E48 : Env := ⟨27, tyTab tys, oneTab ones, fnTab [(80, C80)], false, [], [(2, [0, 1, 5], [4]), (4, [0, 1, 5], [4]), (7, [1], [4]), (100000, [1], [4]), (100001, [0, 1, 5], [4]), (99999, [4], [4])], none, []⟩
noncomputable def L48 : List (LoopS (Int × List (D81) × Unit)) := [⟨2, ⟨[(0, (.ref (.slice Y81) 4 [])), (1, (.pv (.int .i64))), (5, (.pv (.int .i64)))], [(4, (.data false (.slice Y81) (.own (.pr .z (.pr (.own .z) .z)))))]⟩, fun κ => F48_R2 (fun y => κ.exit 0 (SSh.mk' ⟨[(1, (.pv (.int .i64)))], [(4, (.data false (.slice Y81) (.own (.pr .z (.pr (.own .z) .z)))))]⟩ y))⟩]
theorem L48_2 : ∀ p : Option Src, RoundEq { E48 with pin := p } L48 L48[0] (nthLoop (codeOf Tryz.f48) 0) := fun p κ N x => by kernel_rfl
theorem C48_ok : IoOk Tryz.prog 48 C48 := tO E48 L48 [nthLoop (codeOf Tryz.f48) 0] Tryz.func48 ty_ok (.consIo C80_ok .nil) (fun p => (.cons L48[0] (by kernel_rfl) (L48_2 p) .nil))
noncomputable def F81_R2 (e0_0 : Int × List (D190) × Unit → Option (Int × List (D190) × Unit)) (rec : Int × Int × List (D190) × Unit → Option (Int × List (D190) × Unit)) (x2 : Int × Int × List (D190) × Unit) : Option (Int × List (D190) × Unit) :=
 (cond (decide (x2.2.1 < (((List.length x2.2.2.1) : Nat) : Int)))
 (Option.bind (F47 x2.1) fun y4 =>
 (gd (decide ((0 : Int) ≤ x2.2.1))
 (gd (decide (x2.2.1 < (((List.length x2.2.2.1) : Nat) : Int)))
 (Option.bind x2.2.2.1[(Int.toNat x2.2.1)]? fun y5 =>
 (gd (decide ((0 : Int) ≤ x2.2.1))
 (gd (decide (x2.2.1 < (((List.length (List.set x2.2.2.1 (Int.toNat x2.2.1) (y4.1, y5.2))) : Nat) : Int)))
 (Option.bind (List.set x2.2.2.1 (Int.toNat x2.2.1) (y4.1, y5.2))[(Int.toNat x2.2.1)]? fun y6 =>
 (rec ((IntKind.wrap IntKind.i64 ((IntKind.wrap IntKind.i64 (x2.1 + (1 : Int))) + (1 : Int))), (IntKind.wrap IntKind.i64 (x2.2.1 + (1 : Int))), (List.set (List.set x2.2.2.1 (Int.toNat x2.2.1) (y4.1, y5.2)) (Int.toNat x2.2.1) (y6.1, (((Int.tmod (IntKind.wrap IntKind.i64 (x2.1 + (1 : Int))) (3 : Int)) == (0 : Int)), y6.2.2))), ())))))))))
 (e0_0 (x2.1, x2.2.2.1, ())))
noncomputable def F81 (a0 : List (D190)) (a1 : Int) : Option (Int × List (D190) × Unit) :=
 (iter (F81_R2
 (fun y7 =>
 (some (y7.1, (y7.2.1, ()))))) fuel (a1, (0 : Int), a0, ()))
noncomputable def C81 : Fun := ⟨[(.io (.slice Y190) (.own .z)), (.ro (.int .i64))], [((.int .i64), .z)], fun z => F81 z.1 z.2.1⟩
noncomputable def E81 : Env := ⟨30, tyTab tys, oneTab ones, fnTab [(47, C47)], false, [], [(2, [0, 1, 5], [4]), (4, [0, 1, 5], [4]), (8, [1], [4]), (100000, [1], [4]), (100001, [0, 1, 5], [4]), (99999, [4], [4])], none, []⟩
noncomputable def L81 : List (LoopS (Int × List (D190) × Unit)) := [⟨2, ⟨[(0, (.ref (.slice Y190) 4 [])), (1, (.pv (.int .i64))), (5, (.pv (.int .i64)))], [(4, (.data false (.slice Y190) (.own .z)))]⟩, fun κ => F81_R2 (fun y => κ.exit 0 (SSh.mk' ⟨[(1, (.pv (.int .i64)))], [(4, (.data false (.slice Y190) (.own .z)))]⟩ y))⟩]
theorem L81_2 : ∀ p : Option Src, RoundEq { E81 with pin := p } L81 L81[0] (nthLoop (codeOf Tryz.f81) 0) := fun p κ N x => by kernel_rfl
theorem C81_ok : IoOk Tryz.prog 81 C81 := tO E81 L81 [nthLoop (codeOf Tryz.f81) 0] Tryz.func81 ty_ok (.cons C47_ok .nil) (fun p => (.cons L81[0] (by kernel_rfl) (L81_2 p) .nil))
noncomputable def F49_R2 (e0_0 : Int × List (D138) × Unit → Option (Int × List (D138) × Unit)) (rec : Int × Int × List (D138) × Unit → Option (Int × List (D138) × Unit)) (x2 : Int × Int × List (D138) × Unit) : Option (Int × List (D138) × Unit) :=
 (cond (decide (x2.2.1 < (((List.length x2.2.2.1) : Nat) : Int)))
 (Option.bind (F47 x2.1) fun y4 =>
 (gd (decide ((0 : Int) ≤ x2.2.1))
 (gd (decide (x2.2.1 < (((List.length x2.2.2.1) : Nat) : Int)))
 (Option.bind x2.2.2.1[(Int.toNat x2.2.1)]? fun y5 =>
 (gd (decide ((0 : Int) ≤ x2.2.1))
 (gd (decide (x2.2.1 < (((List.length (List.set x2.2.2.1 (Int.toNat x2.2.1) (y4.1, y5.2))) : Nat) : Int)))
 (Option.bind (List.set x2.2.2.1 (Int.toNat x2.2.1) (y4.1, y5.2))[(Int.toNat x2.2.1)]? fun y6 =>
 (Option.bind (List.set x2.2.2.1 (Int.toNat x2.2.1) (y4.1, y5.2))[(Int.toNat x2.2.1)]? fun y7 =>
 (Option.bind (F81 y7.2.1 (IntKind.wrap IntKind.i64 (x2.1 + (1 : Int)))) fun y8 =>
 (Option.bind (List.set x2.2.2.1 (Int.toNat x2.2.1) (y4.1, y5.2))[(Int.toNat x2.2.1)]? fun y9 =>
 (rec (y8.1, (IntKind.wrap IntKind.i64 (x2.2.1 + (1 : Int))), (List.set (List.set x2.2.2.1 (Int.toNat x2.2.1) (y4.1, y5.2)) (Int.toNat x2.2.1) (y9.1, (y8.2.1, y9.2.2))), ()))))))))))))
 (e0_0 (x2.1, x2.2.2.1, ())))
noncomputable def F49 (a0 : List (D138)) (a1 : Int) : Option (Int × List (D138) × Unit) :=
 (iter (F49_R2
 (fun y10 =>
 (some (y10.1, (y10.2.1, ()))))) fuel (a1, (0 : Int), a0, ()))
noncomputable def C49 : Fun := ⟨[(.io (.slice Y138) (.own (.pr .z (.pr (.own .z) .z)))), (.ro (.int .i64))], [((.int .i64), .z)], fun z => F49 z.1 z.2.1⟩
noncomputable def E49 : Env := ⟨28, tyTab tys, oneTab ones, fnTab [(47, C47), (81, C81)], false, [], [(2, [0, 1, 5], [4]), (4, [0, 1, 5], [4]), (7, [1], [4]), (100000, [1], [4]), (100001, [0, 1, 5], [4]), (99999, [4], [4])], none, []⟩
noncomputable def L49 : List (LoopS (Int × List (D138) × Unit)) := [⟨2, ⟨[(0, (.ref (.slice Y138) 4 [])), (1, (.pv (.int .i64))), (5, (.pv (.int .i64)))], [(4, (.data false (.slice Y138) (.own (.pr .z (.pr (.own .z) .z)))))]⟩, fun κ => F49_R2 (fun y => κ.exit 0 (SSh.mk' ⟨[(1, (.pv (.int .i64)))], [(4, (.data false (.slice Y138) (.own (.pr .z (.pr (.own .z) .z)))))]⟩ y))⟩]
theorem L49_2 : ∀ p : Option Src, RoundEq { E49 with pin := p } L49 L49[0] (nthLoop (codeOf Tryz.f49) 0) := fun p κ N x => by kernel_rfl
theorem C49_ok : IoOk Tryz.prog 49 C49 := tO E49 L49 [nthLoop (codeOf Tryz.f49) 0] Tryz.func49 ty_ok (.cons C47_ok (.consIo C81_ok .nil)) (fun p => (.cons L49[0] (by kernel_rfl) (L49_2 p) .nil))
noncomputable def F24_R2 (e0_0 : Int × List (D62) × Unit → Option (Int × List (D62) × Unit)) (rec : Int × Int × List (D62) × Unit → Option (Int × List (D62) × Unit)) (x2 : Int × Int × List (D62) × Unit) : Option (Int × List (D62) × Unit) :=
 (cond (decide (x2.2.1 < (((List.length x2.2.2.1) : Nat) : Int)))
 (Option.bind (F47 x2.1) fun y4 =>
 (gd (decide ((0 : Int) ≤ x2.2.1))
 (gd (decide (x2.2.1 < (((List.length x2.2.2.1) : Nat) : Int)))
 (Option.bind x2.2.2.1[(Int.toNat x2.2.1)]? fun y5 =>
 (gd (decide ((0 : Int) ≤ x2.2.1))
 (gd (decide (x2.2.1 < (((List.length (List.set x2.2.2.1 (Int.toNat x2.2.1) (y4.1, y5.2))) : Nat) : Int)))
 (Option.bind (List.set x2.2.2.1 (Int.toNat x2.2.1) (y4.1, y5.2))[(Int.toNat x2.2.1)]? fun y6 =>
 (Option.bind (List.set x2.2.2.1 (Int.toNat x2.2.1) (y4.1, y5.2))[(Int.toNat x2.2.1)]? fun y7 =>
 (Option.bind (F48 y7.2.1 (IntKind.wrap IntKind.i64 (x2.1 + (1 : Int)))) fun y8 =>
 (Option.bind (List.set x2.2.2.1 (Int.toNat x2.2.1) (y4.1, y5.2))[(Int.toNat x2.2.1)]? fun y9 =>
 (gd (decide ((0 : Int) ≤ x2.2.1))
 (gd (decide (x2.2.1 < (((List.length (List.set (List.set x2.2.2.1 (Int.toNat x2.2.1) (y4.1, y5.2)) (Int.toNat x2.2.1) (y9.1, (y8.2.1, y9.2.2)))) : Nat) : Int)))
 (Option.bind (List.set (List.set x2.2.2.1 (Int.toNat x2.2.1) (y4.1, y5.2)) (Int.toNat x2.2.1) (y9.1, (y8.2.1, y9.2.2)))[(Int.toNat x2.2.1)]? fun y10 =>
 (Option.bind (List.set (List.set x2.2.2.1 (Int.toNat x2.2.1) (y4.1, y5.2)) (Int.toNat x2.2.1) (y9.1, (y8.2.1, y9.2.2)))[(Int.toNat x2.2.1)]? fun y11 =>
 (Option.bind (F49 y11.2.2.1 y8.1) fun y12 =>
 (Option.bind (List.set (List.set x2.2.2.1 (Int.toNat x2.2.1) (y4.1, y5.2)) (Int.toNat x2.2.1) (y9.1, (y8.2.1, y9.2.2)))[(Int.toNat x2.2.1)]? fun y13 =>
 (rec (y12.1, (IntKind.wrap IntKind.i64 (x2.2.1 + (1 : Int))), (List.set (List.set (List.set x2.2.2.1 (Int.toNat x2.2.1) (y4.1, y5.2)) (Int.toNat x2.2.1) (y9.1, (y8.2.1, y9.2.2))) (Int.toNat x2.2.1) (y13.1, (y13.2.1, (y12.2.1, y13.2.2.2)))), ()))))))))))))))))))
 (e0_0 (x2.1, x2.2.2.1, ())))
noncomputable def F24 (a0 : List (D62)) (a1 : Int) : Option (Int × List (D62) × Unit) :=
 (iter (F24_R2
 (fun y14 =>
 (some (y14.1, (y14.2.1, ()))))) fuel (a1, (0 : Int), a0, ()))
noncomputable def C24 : Fun := ⟨[(.io (.slice Y62) (.own (.pr .z (.pr (.own (.pr .z (.pr (.own .z) .z))) (.pr (.own (.pr .z (.pr (.own .z) .z))) .z))))), (.ro (.int .i64))], [((.int .i64), .z)], fun z => F24 z.1 z.2.1⟩
noncomputable def E24 : Env := ⟨35, tyTab tys, oneTab ones, fnTab [(47, C47), (48, C48), (49, C49)], false, [], [(2, [0, 1, 5], [4]), (4, [0, 1, 5], [4]), (8, [1], [4]), (100000, [1], [4]), (100001, [0, 1, 5], [4]), (99999, [4], [4])], none, []⟩
noncomputable def L24 : List (LoopS (Int × List (D62) × Unit)) := [⟨2, ⟨[(0, (.ref (.slice Y62) 4 [])), (1, (.pv (.int .i64))), (5, (.pv (.int .i64)))], [(4, (.data false (.slice Y62) (.own (.pr .z (.pr (.own (.pr .z (.pr (.own .z) .z))) (.pr (.own (.pr .z (.pr (.own .z) .z))) .z))))))]⟩, fun κ => F24_R2 (fun y => κ.exit 0 (SSh.mk' ⟨[(1, (.pv (.int .i64)))], [(4, (.data false (.slice Y62) (.own (.pr .z (.pr (.own (.pr .z (.pr (.own .z) .z))) (.pr (.own (.pr .z (.pr (.own .z) .z))) .z))))))]⟩ y))⟩]
theorem L24_2 : ∀ p : Option Src, RoundEq { E24 with pin := p } L24 L24[0] (nthLoop (codeOf Tryz.f24) 0) := fun p κ N x => by kernel_rfl
theorem C24_ok : IoOk Tryz.prog 24 C24 := tO E24 L24 [nthLoop (codeOf Tryz.f24) 0] Tryz.func24 ty_ok (.cons C47_ok (.consIo C48_ok (.consIo C49_ok .nil))) (fun p => (.cons L24[0] (by kernel_rfl) (L24_2 p) .nil))
noncomputable def F119_R2 (e0_0 : Int × List (D203) × Unit → Option (Int × List (D203) × Unit)) (rec : Int × Int × List (D203) × Unit → Option (Int × List (D203) × Unit)) (x2 : Int × Int × List (D203) × Unit) : Option (Int × List (D203) × Unit) :=
 (cond (decide (x2.2.1 < (((List.length x2.2.2.1) : Nat) : Int)))
 (gd (decide ((0 : Int) ≤ x2.2.1))
 (gd (decide (x2.2.1 < (((List.length x2.2.2.1) : Nat) : Int)))
 (Option.bind x2.2.2.1[(Int.toNat x2.2.1)]? fun y4 =>
 (Option.bind (F47 (IntKind.wrap IntKind.i64 (x2.1 + (1 : Int)))) fun y5 =>
 (gd (decide ((0 : Int) ≤ x2.2.1))
 (gd (decide (x2.2.1 < (((List.length (List.set x2.2.2.1 (Int.toNat x2.2.1) (x2.1, y4.2))) : Nat) : Int)))
 (Option.bind (List.set x2.2.2.1 (Int.toNat x2.2.1) (x2.1, y4.2))[(Int.toNat x2.2.1)]? fun y6 =>
 (gd (decide ((0 : Int) ≤ x2.2.1))
 (gd (decide (x2.2.1 < (((List.length (List.set (List.set x2.2.2.1 (Int.toNat x2.2.1) (x2.1, y4.2)) (Int.toNat x2.2.1) (y6.1, (y5.1, y6.2.2)))) : Nat) : Int)))
 (Option.bind (List.set (List.set x2.2.2.1 (Int.toNat x2.2.1) (x2.1, y4.2)) (Int.toNat x2.2.1) (y6.1, (y5.1, y6.2.2)))[(Int.toNat x2.2.1)]? fun y7 =>
 (gd (decide ((0 : Int) ≤ x2.2.1))
 (gd (decide (x2.2.1 < (((List.length (List.set (List.set (List.set x2.2.2.1 (Int.toNat x2.2.1) (x2.1, y4.2)) (Int.toNat x2.2.1) (y6.1, (y5.1, y6.2.2))) (Int.toNat x2.2.1) (y7.1, (y7.2.1, (((IntKind.wrap IntKind.i64 ((IntKind.wrap IntKind.i64 (x2.1 + (1 : Int))) + (1 : Int))), y7.2.2.1.2), y7.2.2.2))))) : Nat) : Int)))
 (Option.bind (List.set (List.set (List.set x2.2.2.1 (Int.toNat x2.2.1) (x2.1, y4.2)) (Int.toNat x2.2.1) (y6.1, (y5.1, y6.2.2))) (Int.toNat x2.2.1) (y7.1, (y7.2.1, (((IntKind.wrap IntKind.i64 ((IntKind.wrap IntKind.i64 (x2.1 + (1 : Int))) + (1 : Int))), y7.2.2.1.2), y7.2.2.2))))[(Int.toNat x2.2.1)]? fun y8 =>
 (Option.bind (F47 (IntKind.wrap IntKind.i64 ((IntKind.wrap IntKind.i64 ((IntKind.wrap IntKind.i64 ((IntKind.wrap IntKind.i64 (x2.1 + (1 : Int))) + (1 : Int))) + (1 : Int))) + (1 : Int)))) fun y9 =>
 (gd (decide ((0 : Int) ≤ x2.2.1))
 (gd (decide (x2.2.1 < (((List.length (List.set (List.set (List.set (List.set x2.2.2.1 (Int.toNat x2.2.1) (x2.1, y4.2)) (Int.toNat x2.2.1) (y6.1, (y5.1, y6.2.2))) (Int.toNat x2.2.1) (y7.1, (y7.2.1, (((IntKind.wrap IntKind.i64 ((IntKind.wrap IntKind.i64 (x2.1 + (1 : Int))) + (1 : Int))), y7.2.2.1.2), y7.2.2.2)))) (Int.toNat x2.2.1) (y8.1, (y8.2.1, ((y8.2.2.1.1, ((IntKind.wrap IntKind.i64 ((IntKind.wrap IntKind.i64 ((IntKind.wrap IntKind.i64 (x2.1 + (1 : Int))) + (1 : Int))) + (1 : Int))), y8.2.2.1.2.2)), y8.2.2.2))))) : Nat) : Int)))
 (Option.bind (List.set (List.set (List.set (List.set x2.2.2.1 (Int.toNat x2.2.1) (x2.1, y4.2)) (Int.toNat x2.2.1) (y6.1, (y5.1, y6.2.2))) (Int.toNat x2.2.1) (y7.1, (y7.2.1, (((IntKind.wrap IntKind.i64 ((IntKind.wrap IntKind.i64 (x2.1 + (1 : Int))) + (1 : Int))), y7.2.2.1.2), y7.2.2.2)))) (Int.toNat x2.2.1) (y8.1, (y8.2.1, ((y8.2.2.1.1, ((IntKind.wrap IntKind.i64 ((IntKind.wrap IntKind.i64 ((IntKind.wrap IntKind.i64 (x2.1 + (1 : Int))) + (1 : Int))) + (1 : Int))), y8.2.2.1.2.2)), y8.2.2.2))))[(Int.toNat x2.2.1)]? fun y10 =>
 (rec ((IntKind.wrap IntKind.i64 ((IntKind.wrap IntKind.i64 ((IntKind.wrap IntKind.i64 ((IntKind.wrap IntKind.i64 ((IntKind.wrap IntKind.i64 (x2.1 + (1 : Int))) + (1 : Int))) + (1 : Int))) + (1 : Int))) + (1 : Int))), (IntKind.wrap IntKind.i64 (x2.2.1 + (1 : Int))), (List.set (List.set (List.set (List.set (List.set x2.2.2.1 (Int.toNat x2.2.1) (x2.1, y4.2)) (Int.toNat x2.2.1) (y6.1, (y5.1, y6.2.2))) (Int.toNat x2.2.1) (y7.1, (y7.2.1, (((IntKind.wrap IntKind.i64 ((IntKind.wrap IntKind.i64 (x2.1 + (1 : Int))) + (1 : Int))), y7.2.2.1.2), y7.2.2.2)))) (Int.toNat x2.2.1) (y8.1, (y8.2.1, ((y8.2.2.1.1, ((IntKind.wrap IntKind.i64 ((IntKind.wrap IntKind.i64 ((IntKind.wrap IntKind.i64 (x2.1 + (1 : Int))) + (1 : Int))) + (1 : Int))), y8.2.2.1.2.2)), y8.2.2.2)))) (Int.toNat x2.2.1) (y10.1, (y10.2.1, ((y10.2.2.1.1, (y10.2.2.1.2.1, (y9.1, y10.2.2.1.2.2.2))), y10.2.2.2)))), ())))))))))))))))))))
 (e0_0 (x2.1, x2.2.2.1, ())))
noncomputable def F119 (a0 : List (D203)) (a1 : Int) : Option (Int × List (D203) × Unit) :=
 (iter (F119_R2
 (fun y11 =>
 (some (y11.1, (y11.2.1, ()))))) fuel (a1, (0 : Int), a0, ()))
noncomputable def C119 : Fun := ⟨[(.io (.slice Y203) (.own .z)), (.ro (.int .i64))], [((.int .i64), .z)], fun z => F119 z.1 z.2.1⟩
noncomputable def E119 : Env := ⟨53, tyTab tys, oneTab ones, fnTab [(47, C47)], false, [], [(2, [0, 1, 5], [4]), (4, [0, 1, 5], [4]), (14, [1], [4]), (100000, [1], [4]), (100001, [0, 1, 5], [4]), (99999, [4], [4])], none, []⟩
noncomputable def L119 : List (LoopS (Int × List (D203) × Unit)) := [⟨2, ⟨[(0, (.ref (.slice Y203) 4 [])), (1, (.pv (.int .i64))), (5, (.pv (.int .i64)))], [(4, (.data false (.slice Y203) (.own .z)))]⟩, fun κ => F119_R2 (fun y => κ.exit 0 (SSh.mk' ⟨[(1, (.pv (.int .i64)))], [(4, (.data false (.slice Y203) (.own .z)))]⟩ y))⟩]
theorem L119_2 : ∀ p : Option Src, RoundEq { E119 with pin := p } L119 L119[0] (nthLoop (codeOf Tryz.f119) 0) := fun p κ N x => by kernel_rfl
theorem C119_ok : IoOk Tryz.prog 119 C119 := tO E119 L119 [nthLoop (codeOf Tryz.f119) 0] Tryz.func119 ty_ok (.cons C47_ok .nil) (fun p => (.cons L119[0] (by kernel_rfl) (L119_2 p) .nil))
noncomputable def F82_R2 (e0_0 : Int × List (D194) × Unit → Option (Int × List (D194) × Unit)) (rec : Int × Int × List (D194) × Unit → Option (Int × List (D194) × Unit)) (x2 : Int × Int × List (D194) × Unit) : Option (Int × List (D194) × Unit) :=
 (cond (decide (x2.2.1 < (((List.length x2.2.2.1) : Nat) : Int)))
 (gd (decide ((0 : Int) ≤ x2.2.1))
 (gd (decide (x2.2.1 < (((List.length x2.2.2.1) : Nat) : Int)))
 (Option.bind x2.2.2.1[(Int.toNat x2.2.1)]? fun y4 =>
 (Option.bind x2.2.2.1[(Int.toNat x2.2.1)]? fun y5 =>
 (Option.bind (F119 y5.1 x2.1) fun y6 =>
 (Option.bind x2.2.2.1[(Int.toNat x2.2.1)]? fun y7 =>
 (rec (y6.1, (IntKind.wrap IntKind.i64 (x2.2.1 + (1 : Int))), (List.set x2.2.2.1 (Int.toNat x2.2.1) (y6.2.1, y7.2)), ()))))))))
 (e0_0 (x2.1, x2.2.2.1, ())))
noncomputable def F82 (a0 : List (D194)) (a1 : Int) : Option (Int × List (D194) × Unit) :=
 (iter (F82_R2
 (fun y8 =>
 (some (y8.1, (y8.2.1, ()))))) fuel (a1, (0 : Int), a0, ()))
noncomputable def C82 : Fun := ⟨[(.io (.slice Y194) (.own (.pr (.own .z) .z))), (.ro (.int .i64))], [((.int .i64), .z)], fun z => F82 z.1 z.2.1⟩
noncomputable def E82 : Env := ⟨20, tyTab tys, oneTab ones, fnTab [(119, C119)], false, [], [(2, [0, 1, 5], [4]), (4, [0, 1, 5], [4]), (5, [1], [4]), (100000, [1], [4]), (100001, [0, 1, 5], [4]), (99999, [4], [4])], none, []⟩
noncomputable def L82 : List (LoopS (Int × List (D194) × Unit)) := [⟨2, ⟨[(0, (.ref (.slice Y194) 4 [])), (1, (.pv (.int .i64))), (5, (.pv (.int .i64)))], [(4, (.data false (.slice Y194) (.own (.pr (.own .z) .z))))]⟩, fun κ => F82_R2 (fun y => κ.exit 0 (SSh.mk' ⟨[(1, (.pv (.int .i64)))], [(4, (.data false (.slice Y194) (.own (.pr (.own .z) .z))))]⟩ y))⟩]
theorem L82_2 : ∀ p : Option Src, RoundEq { E82 with pin := p } L82 L82[0] (nthLoop (codeOf Tryz.f82) 0) := fun p κ N x => by kernel_rfl
theorem C82_ok : IoOk Tryz.prog 82 C82 := tO E82 L82 [nthLoop (codeOf Tryz.f82) 0] Tryz.func82 ty_ok (.consIo C119_ok .nil) (fun p => (.cons L82[0] (by kernel_rfl) (L82_2 p) .nil))
noncomputable def F50_R2 (e0_0 : Int × List (D119) × Unit → Option (Int × List (D119) × Unit)) (rec : Int × Int × List (D119) × Unit → Option (Int × List (D119) × Unit)) (x2 : Int × Int × List (D119) × Unit) : Option (Int × List (D119) × Unit) :=
 (cond (decide (x2.2.1 < (((List.length x2.2.2.1) : Nat) : Int)))
 (Option.bind (F47 x2.1) fun y4 =>
 (gd (decide ((0 : Int) ≤ x2.2.1))
 (gd (decide (x2.2.1 < (((List.length x2.2.2.1) : Nat) : Int)))
 (Option.bind x2.2.2.1[(Int.toNat x2.2.1)]? fun y5 =>
 (gd (decide ((0 : Int) ≤ x2.2.1))
 (gd (decide (x2.2.1 < (((List.length (List.set x2.2.2.1 (Int.toNat x2.2.1) (y4.1, y5.2))) : Nat) : Int)))
 (Option.bind (List.set x2.2.2.1 (Int.toNat x2.2.1) (y4.1, y5.2))[(Int.toNat x2.2.1)]? fun y6 =>
 (Option.bind (List.set x2.2.2.1 (Int.toNat x2.2.1) (y4.1, y5.2))[(Int.toNat x2.2.1)]? fun y7 =>
 (Option.bind (F82 y7.2.1.1 (IntKind.wrap IntKind.i64 (x2.1 + (1 : Int)))) fun y8 =>
 (Option.bind (List.set x2.2.2.1 (Int.toNat x2.2.1) (y4.1, y5.2))[(Int.toNat x2.2.1)]? fun y9 =>
 (rec (y8.1, (IntKind.wrap IntKind.i64 (x2.2.1 + (1 : Int))), (List.set (List.set x2.2.2.1 (Int.toNat x2.2.1) (y4.1, y5.2)) (Int.toNat x2.2.1) (y9.1, ((y8.2.1, y9.2.1.2), y9.2.2))), ()))))))))))))
 (e0_0 (x2.1, x2.2.2.1, ())))
noncomputable def F50 (a0 : List (D119)) (a1 : Int) : Option (Int × List (D119) × Unit) :=
 (iter (F50_R2
 (fun y10 =>
 (some (y10.1, (y10.2.1, ()))))) fuel (a1, (0 : Int), a0, ()))
noncomputable def C50 : Fun := ⟨[(.io (.slice Y119) (.own (.pr .z (.pr (.pr (.own (.pr (.own .z) .z)) .z) .z)))), (.ro (.int .i64))], [((.int .i64), .z)], fun z => F50 z.1 z.2.1⟩
noncomputable def E50 : Env := ⟨29, tyTab tys, oneTab ones, fnTab [(47, C47), (82, C82)], false, [], [(2, [0, 1, 5], [4]), (4, [0, 1, 5], [4]), (7, [1], [4]), (100000, [1], [4]), (100001, [0, 1, 5], [4]), (99999, [4], [4])], none, []⟩
noncomputable def L50 : List (LoopS (Int × List (D119) × Unit)) := [⟨2, ⟨[(0, (.ref (.slice Y119) 4 [])), (1, (.pv (.int .i64))), (5, (.pv (.int .i64)))], [(4, (.data false (.slice Y119) (.own (.pr .z (.pr (.pr (.own (.pr (.own .z) .z)) .z) .z)))))]⟩, fun κ => F50_R2 (fun y => κ.exit 0 (SSh.mk' ⟨[(1, (.pv (.int .i64)))], [(4, (.data false (.slice Y119) (.own (.pr .z (.pr (.pr (.own (.pr (.own .z) .z)) .z) .z)))))]⟩ y))⟩]
theorem L50_2 : ∀ p : Option Src, RoundEq { E50 with pin := p } L50 L50[0] (nthLoop (codeOf Tryz.f50) 0) := fun p κ N x => by kernel_rfl
theorem C50_ok : IoOk Tryz.prog 50 C50 := tO E50 L50 [nthLoop (codeOf Tryz.f50) 0] Tryz.func50 ty_ok (.cons C47_ok (.consIo C82_ok .nil)) (fun p => (.cons L50[0] (by kernel_rfl) (L50_2 p) .nil))
noncomputable def F51_R2 (e0_0 : Int × List (D89) × Unit → Option (Int × List (D89) × Unit)) (rec : Int × Int × List (D89) × Unit → Option (Int × List (D89) × Unit)) (x2 : Int × Int × List (D89) × Unit) : Option (Int × List (D89) × Unit) :=
 (cond (decide (x2.2.1 < (((List.length x2.2.2.1) : Nat) : Int)))
 (Option.bind (F47 x2.1) fun y4 =>
 (gd (decide ((0 : Int) ≤ x2.2.1))
 (gd (decide (x2.2.1 < (((List.length x2.2.2.1) : Nat) : Int)))
 (Option.bind x2.2.2.1[(Int.toNat x2.2.1)]? fun y5 =>
 (gd (decide ((0 : Int) ≤ x2.2.1))
 (gd (decide (x2.2.1 < (((List.length (List.set x2.2.2.1 (Int.toNat x2.2.1) (y4.1, y5.2))) : Nat) : Int)))
 (Option.bind (List.set x2.2.2.1 (Int.toNat x2.2.1) (y4.1, y5.2))[(Int.toNat x2.2.1)]? fun y6 =>
 (gd (decide ((0 : Int) ≤ x2.2.1))
 (gd (decide (x2.2.1 < (((List.length (List.set (List.set x2.2.2.1 (Int.toNat x2.2.1) (y4.1, y5.2)) (Int.toNat x2.2.1) (y6.1, ((IntKind.wrap IntKind.i64 (x2.1 + (1 : Int))), y6.2.2)))) : Nat) : Int)))
 (Option.bind (List.set (List.set x2.2.2.1 (Int.toNat x2.2.1) (y4.1, y5.2)) (Int.toNat x2.2.1) (y6.1, ((IntKind.wrap IntKind.i64 (x2.1 + (1 : Int))), y6.2.2)))[(Int.toNat x2.2.1)]? fun y7 =>
 (gd (decide ((0 : Int) ≤ x2.2.1))
 (gd (decide (x2.2.1 < (((List.length (List.set (List.set (List.set x2.2.2.1 (Int.toNat x2.2.1) (y4.1, y5.2)) (Int.toNat x2.2.1) (y6.1, ((IntKind.wrap IntKind.i64 (x2.1 + (1 : Int))), y6.2.2))) (Int.toNat x2.2.1) (y7.1, (y7.2.1, (((Int.tmod (IntKind.wrap IntKind.i64 ((IntKind.wrap IntKind.i64 (x2.1 + (1 : Int))) + (1 : Int))) (3 : Int)) == (0 : Int)), y7.2.2.2))))) : Nat) : Int)))
 (Option.bind (List.set (List.set (List.set x2.2.2.1 (Int.toNat x2.2.1) (y4.1, y5.2)) (Int.toNat x2.2.1) (y6.1, ((IntKind.wrap IntKind.i64 (x2.1 + (1 : Int))), y6.2.2))) (Int.toNat x2.2.1) (y7.1, (y7.2.1, (((Int.tmod (IntKind.wrap IntKind.i64 ((IntKind.wrap IntKind.i64 (x2.1 + (1 : Int))) + (1 : Int))) (3 : Int)) == (0 : Int)), y7.2.2.2))))[(Int.toNat x2.2.1)]? fun y8 =>
 (gd (decide ((0 : Int) ≤ x2.2.1))
 (gd (decide (x2.2.1 < (((List.length (List.set (List.set (List.set (List.set x2.2.2.1 (Int.toNat x2.2.1) (y4.1, y5.2)) (Int.toNat x2.2.1) (y6.1, ((IntKind.wrap IntKind.i64 (x2.1 + (1 : Int))), y6.2.2))) (Int.toNat x2.2.1) (y7.1, (y7.2.1, (((Int.tmod (IntKind.wrap IntKind.i64 ((IntKind.wrap IntKind.i64 (x2.1 + (1 : Int))) + (1 : Int))) (3 : Int)) == (0 : Int)), y7.2.2.2)))) (Int.toNat x2.2.1) (y8.1, (y8.2.1, (y8.2.2.1, (((IntKind.wrap IntKind.i64 ((IntKind.wrap IntKind.i64 ((IntKind.wrap IntKind.i64 (x2.1 + (1 : Int))) + (1 : Int))) + (1 : Int))), y8.2.2.2.1.2), y8.2.2.2.2)))))) : Nat) : Int)))
 (Option.bind (List.set (List.set (List.set (List.set x2.2.2.1 (Int.toNat x2.2.1) (y4.1, y5.2)) (Int.toNat x2.2.1) (y6.1, ((IntKind.wrap IntKind.i64 (x2.1 + (1 : Int))), y6.2.2))) (Int.toNat x2.2.1) (y7.1, (y7.2.1, (((Int.tmod (IntKind.wrap IntKind.i64 ((IntKind.wrap IntKind.i64 (x2.1 + (1 : Int))) + (1 : Int))) (3 : Int)) == (0 : Int)), y7.2.2.2)))) (Int.toNat x2.2.1) (y8.1, (y8.2.1, (y8.2.2.1, (((IntKind.wrap IntKind.i64 ((IntKind.wrap IntKind.i64 ((IntKind.wrap IntKind.i64 (x2.1 + (1 : Int))) + (1 : Int))) + (1 : Int))), y8.2.2.2.1.2), y8.2.2.2.2)))))[(Int.toNat x2.2.1)]? fun y9 =>
 (Option.bind (F47 (IntKind.wrap IntKind.i64 ((IntKind.wrap IntKind.i64 ((IntKind.wrap IntKind.i64 ((IntKind.wrap IntKind.i64 ((IntKind.wrap IntKind.i64 (x2.1 + (1 : Int))) + (1 : Int))) + (1 : Int))) + (1 : Int))) + (1 : Int)))) fun y10 =>
 (gd (decide ((0 : Int) ≤ x2.2.1))
 (gd (decide (x2.2.1 < (((List.length (List.set (List.set (List.set (List.set (List.set x2.2.2.1 (Int.toNat x2.2.1) (y4.1, y5.2)) (Int.toNat x2.2.1) (y6.1, ((IntKind.wrap IntKind.i64 (x2.1 + (1 : Int))), y6.2.2))) (Int.toNat x2.2.1) (y7.1, (y7.2.1, (((Int.tmod (IntKind.wrap IntKind.i64 ((IntKind.wrap IntKind.i64 (x2.1 + (1 : Int))) + (1 : Int))) (3 : Int)) == (0 : Int)), y7.2.2.2)))) (Int.toNat x2.2.1) (y8.1, (y8.2.1, (y8.2.2.1, (((IntKind.wrap IntKind.i64 ((IntKind.wrap IntKind.i64 ((IntKind.wrap IntKind.i64 (x2.1 + (1 : Int))) + (1 : Int))) + (1 : Int))), y8.2.2.2.1.2), y8.2.2.2.2))))) (Int.toNat x2.2.1) (y9.1, (y9.2.1, (y9.2.2.1, ((y9.2.2.2.1.1, ((IntKind.wrap IntKind.i64 ((IntKind.wrap IntKind.i64 ((IntKind.wrap IntKind.i64 ((IntKind.wrap IntKind.i64 (x2.1 + (1 : Int))) + (1 : Int))) + (1 : Int))) + (1 : Int))), y9.2.2.2.1.2.2)), y9.2.2.2.2)))))) : Nat) : Int)))
 (Option.bind (List.set (List.set (List.set (List.set (List.set x2.2.2.1 (Int.toNat x2.2.1) (y4.1, y5.2)) (Int.toNat x2.2.1) (y6.1, ((IntKind.wrap IntKind.i64 (x2.1 + (1 : Int))), y6.2.2))) (Int.toNat x2.2.1) (y7.1, (y7.2.1, (((Int.tmod (IntKind.wrap IntKind.i64 ((IntKind.wrap IntKind.i64 (x2.1 + (1 : Int))) + (1 : Int))) (3 : Int)) == (0 : Int)), y7.2.2.2)))) (Int.toNat x2.2.1) (y8.1, (y8.2.1, (y8.2.2.1, (((IntKind.wrap IntKind.i64 ((IntKind.wrap IntKind.i64 ((IntKind.wrap IntKind.i64 (x2.1 + (1 : Int))) + (1 : Int))) + (1 : Int))), y8.2.2.2.1.2), y8.2.2.2.2))))) (Int.toNat x2.2.1) (y9.1, (y9.2.1, (y9.2.2.1, ((y9.2.2.2.1.1, ((IntKind.wrap IntKind.i64 ((IntKind.wrap IntKind.i64 ((IntKind.wrap IntKind.i64 ((IntKind.wrap IntKind.i64 (x2.1 + (1 : Int))) + (1 : Int))) + (1 : Int))) + (1 : Int))), y9.2.2.2.1.2.2)), y9.2.2.2.2)))))[(Int.toNat x2.2.1)]? fun y11 =>
 (rec ((IntKind.wrap IntKind.i64 ((IntKind.wrap IntKind.i64 ((IntKind.wrap IntKind.i64 ((IntKind.wrap IntKind.i64 ((IntKind.wrap IntKind.i64 ((IntKind.wrap IntKind.i64 (x2.1 + (1 : Int))) + (1 : Int))) + (1 : Int))) + (1 : Int))) + (1 : Int))) + (1 : Int))), (IntKind.wrap IntKind.i64 (x2.2.1 + (1 : Int))), (List.set (List.set (List.set (List.set (List.set (List.set x2.2.2.1 (Int.toNat x2.2.1) (y4.1, y5.2)) (Int.toNat x2.2.1) (y6.1, ((IntKind.wrap IntKind.i64 (x2.1 + (1 : Int))), y6.2.2))) (Int.toNat x2.2.1) (y7.1, (y7.2.1, (((Int.tmod (IntKind.wrap IntKind.i64 ((IntKind.wrap IntKind.i64 (x2.1 + (1 : Int))) + (1 : Int))) (3 : Int)) == (0 : Int)), y7.2.2.2)))) (Int.toNat x2.2.1) (y8.1, (y8.2.1, (y8.2.2.1, (((IntKind.wrap IntKind.i64 ((IntKind.wrap IntKind.i64 ((IntKind.wrap IntKind.i64 (x2.1 + (1 : Int))) + (1 : Int))) + (1 : Int))), y8.2.2.2.1.2), y8.2.2.2.2))))) (Int.toNat x2.2.1) (y9.1, (y9.2.1, (y9.2.2.1, ((y9.2.2.2.1.1, ((IntKind.wrap IntKind.i64 ((IntKind.wrap IntKind.i64 ((IntKind.wrap IntKind.i64 ((IntKind.wrap IntKind.i64 (x2.1 + (1 : Int))) + (1 : Int))) + (1 : Int))) + (1 : Int))), y9.2.2.2.1.2.2)), y9.2.2.2.2))))) (Int.toNat x2.2.1) (y11.1, (y11.2.1, (y11.2.2.1, ((y11.2.2.2.1.1, (y11.2.2.2.1.2.1, (y10.1, y11.2.2.2.1.2.2.2))), y11.2.2.2.2))))), ()))))))))))))))))))))))
 (e0_0 (x2.1, x2.2.2.1, ())))
noncomputable def F51 (a0 : List (D89)) (a1 : Int) : Option (Int × List (D89) × Unit) :=
 (iter (F51_R2
 (fun y12 =>
 (some (y12.1, (y12.2.1, ()))))) fuel (a1, (0 : Int), a0, ()))
noncomputable def C51 : Fun := ⟨[(.io (.slice Y89) (.own .z)), (.ro (.int .i64))], [((.int .i64), .z)], fun z => F51 z.1 z.2.1⟩
noncomputable def E51 : Env := ⟨62, tyTab tys, oneTab ones, fnTab [(47, C47)], false, [], [(2, [0, 1, 5], [4]), (4, [0, 1, 5], [4]), (16, [1], [4]), (100000, [1], [4]), (100001, [0, 1, 5], [4]), (99999, [4], [4])], none, []⟩
noncomputable def L51 : List (LoopS (Int × List (D89) × Unit)) := [⟨2, ⟨[(0, (.ref (.slice Y89) 4 [])), (1, (.pv (.int .i64))), (5, (.pv (.int .i64)))], [(4, (.data false (.slice Y89) (.own .z)))]⟩, fun κ => F51_R2 (fun y => κ.exit 0 (SSh.mk' ⟨[(1, (.pv (.int .i64)))], [(4, (.data false (.slice Y89) (.own .z)))]⟩ y))⟩]
theorem L51_2 : ∀ p : Option Src, RoundEq { E51 with pin := p } L51 L51[0] (nthLoop (codeOf Tryz.f51) 0) := fun p κ N x => by kernel_rfl
theorem C51_ok : IoOk Tryz.prog 51 C51 := tO E51 L51 [nthLoop (codeOf Tryz.f51) 0] Tryz.func51 ty_ok (.cons C47_ok .nil) (fun p => (.cons L51[0] (by kernel_rfl) (L51_2 p) .nil))
noncomputable def F25_R2 (e0_0 : Int × List (D48) × Unit → Option (Int × List (D48) × Unit)) (rec : Int × Int × List (D48) × Unit → Option (Int × List (D48) × Unit)) (x2 : Int × Int × List (D48) × Unit) : Option (Int × List (D48) × Unit) :=
 (cond (decide (x2.2.1 < (((List.length x2.2.2.1) : Nat) : Int)))
 (gd (decide ((0 : Int) ≤ x2.2.1))
 (gd (decide (x2.2.1 < (((List.length x2.2.2.1) : Nat) : Int)))
 (Option.bind x2.2.2.1[(Int.toNat x2.2.1)]? fun y4 =>
 (gd (decide ((0 : Int) ≤ x2.2.1))
 (gd (decide (x2.2.1 < (((List.length (List.set x2.2.2.1 (Int.toNat x2.2.1) (x2.1, y4.2))) : Nat) : Int)))
 (Option.bind (List.set x2.2.2.1 (Int.toNat x2.2.1) (x2.1, y4.2))[(Int.toNat x2.2.1)]? fun y5 =>
 (gd (decide ((0 : Int) ≤ x2.2.1))
 (gd (decide (x2.2.1 < (((List.length (List.set (List.set x2.2.2.1 (Int.toNat x2.2.1) (x2.1, y4.2)) (Int.toNat x2.2.1) (y5.1, ((IntKind.wrap IntKind.i64 (x2.1 + (1 : Int))), y5.2.2)))) : Nat) : Int)))
 (Option.bind (List.set (List.set x2.2.2.1 (Int.toNat x2.2.1) (x2.1, y4.2)) (Int.toNat x2.2.1) (y5.1, ((IntKind.wrap IntKind.i64 (x2.1 + (1 : Int))), y5.2.2)))[(Int.toNat x2.2.1)]? fun y6 =>
 (Option.bind (List.set (List.set x2.2.2.1 (Int.toNat x2.2.1) (x2.1, y4.2)) (Int.toNat x2.2.1) (y5.1, ((IntKind.wrap IntKind.i64 (x2.1 + (1 : Int))), y5.2.2)))[(Int.toNat x2.2.1)]? fun y7 =>
 (Option.bind (F50 y7.2.2.1 (IntKind.wrap IntKind.i64 ((IntKind.wrap IntKind.i64 (x2.1 + (1 : Int))) + (1 : Int)))) fun y8 =>
 (Option.bind (List.set (List.set x2.2.2.1 (Int.toNat x2.2.1) (x2.1, y4.2)) (Int.toNat x2.2.1) (y5.1, ((IntKind.wrap IntKind.i64 (x2.1 + (1 : Int))), y5.2.2)))[(Int.toNat x2.2.1)]? fun y9 =>
 (gd (decide ((0 : Int) ≤ x2.2.1))
 (gd (decide (x2.2.1 < (((List.length (List.set (List.set (List.set x2.2.2.1 (Int.toNat x2.2.1) (x2.1, y4.2)) (Int.toNat x2.2.1) (y5.1, ((IntKind.wrap IntKind.i64 (x2.1 + (1 : Int))), y5.2.2))) (Int.toNat x2.2.1) (y9.1, (y9.2.1, (y8.2.1, y9.2.2.2))))) : Nat) : Int)))
 (Option.bind (List.set (List.set (List.set x2.2.2.1 (Int.toNat x2.2.1) (x2.1, y4.2)) (Int.toNat x2.2.1) (y5.1, ((IntKind.wrap IntKind.i64 (x2.1 + (1 : Int))), y5.2.2))) (Int.toNat x2.2.1) (y9.1, (y9.2.1, (y8.2.1, y9.2.2.2))))[(Int.toNat x2.2.1)]? fun y10 =>
 (Option.bind (List.set (List.set (List.set x2.2.2.1 (Int.toNat x2.2.1) (x2.1, y4.2)) (Int.toNat x2.2.1) (y5.1, ((IntKind.wrap IntKind.i64 (x2.1 + (1 : Int))), y5.2.2))) (Int.toNat x2.2.1) (y9.1, (y9.2.1, (y8.2.1, y9.2.2.2))))[(Int.toNat x2.2.1)]? fun y11 =>
 (Option.bind (F51 y11.2.2.2.1 y8.1) fun y12 =>
 (Option.bind (List.set (List.set (List.set x2.2.2.1 (Int.toNat x2.2.1) (x2.1, y4.2)) (Int.toNat x2.2.1) (y5.1, ((IntKind.wrap IntKind.i64 (x2.1 + (1 : Int))), y5.2.2))) (Int.toNat x2.2.1) (y9.1, (y9.2.1, (y8.2.1, y9.2.2.2))))[(Int.toNat x2.2.1)]? fun y13 =>
 (rec (y12.1, (IntKind.wrap IntKind.i64 (x2.2.1 + (1 : Int))), (List.set (List.set (List.set (List.set x2.2.2.1 (Int.toNat x2.2.1) (x2.1, y4.2)) (Int.toNat x2.2.1) (y5.1, ((IntKind.wrap IntKind.i64 (x2.1 + (1 : Int))), y5.2.2))) (Int.toNat x2.2.1) (y9.1, (y9.2.1, (y8.2.1, y9.2.2.2)))) (Int.toNat x2.2.1) (y13.1, (y13.2.1, (y13.2.2.1, (y12.2.1, y13.2.2.2.2))))), ()))))))))))))))))))))
 (e0_0 (x2.1, x2.2.2.1, ())))
noncomputable def F25 (a0 : List (D48)) (a1 : Int) : Option (Int × List (D48) × Unit) :=
 (iter (F25_R2
 (fun y14 =>
 (some (y14.1, (y14.2.1, ()))))) fuel (a1, (0 : Int), a0, ()))
noncomputable def C25 : Fun := ⟨[(.io (.slice Y48) (.own (.pr .z (.pr .z (.pr (.own (.pr .z (.pr (.pr (.own (.pr (.own .z) .z)) .z) .z))) (.pr (.own .z) .z)))))), (.ro (.int .i64))], [((.int .i64), .z)], fun z => F25 z.1 z.2.1⟩
noncomputable def E25 : Env := ⟨41, tyTab tys, oneTab ones, fnTab [(50, C50), (51, C51)], false, [], [(2, [0, 1, 5], [4]), (4, [0, 1, 5], [4]), (10, [1], [4]), (100000, [1], [4]), (100001, [0, 1, 5], [4]), (99999, [4], [4])], none, []⟩
noncomputable def L25 : List (LoopS (Int × List (D48) × Unit)) := [⟨2, ⟨[(0, (.ref (.slice Y48) 4 [])), (1, (.pv (.int .i64))), (5, (.pv (.int .i64)))], [(4, (.data false (.slice Y48) (.own (.pr .z (.pr .z (.pr (.own (.pr .z (.pr (.pr (.own (.pr (.own .z) .z)) .z) .z))) (.pr (.own .z) .z)))))))]⟩, fun κ => F25_R2 (fun y => κ.exit 0 (SSh.mk' ⟨[(1, (.pv (.int .i64)))], [(4, (.data false (.slice Y48) (.own (.pr .z (.pr .z (.pr (.own (.pr .z (.pr (.pr (.own (.pr (.own .z) .z)) .z) .z))) (.pr (.own .z) .z)))))))]⟩ y))⟩]
theorem L25_2 : ∀ p : Option Src, RoundEq { E25 with pin := p } L25 L25[0] (nthLoop (codeOf Tryz.f25) 0) := fun p κ N x => by kernel_rfl
theorem C25_ok : IoOk Tryz.prog 25 C25 := tO E25 L25 [nthLoop (codeOf Tryz.f25) 0] Tryz.func25 ty_ok (.consIo C50_ok (.consIo C51_ok .nil)) (fun p => (.cons L25[0] (by kernel_rfl) (L25_2 p) .nil))
noncomputable def F52_R2 (e0_0 : Int × List (D142) × Unit → Option (Int × List (D142) × Unit)) (rec : Int × Int × List (D142) × Unit → Option (Int × List (D142) × Unit)) (x2 : Int × Int × List (D142) × Unit) : Option (Int × List (D142) × Unit) :=
 (cond (decide (x2.2.1 < (((List.length x2.2.2.1) : Nat) : Int)))
 (Option.bind (F47 x2.1) fun y4 =>
 (gd (decide ((0 : Int) ≤ x2.2.1))
 (gd (decide (x2.2.1 < (((List.length x2.2.2.1) : Nat) : Int)))
 (Option.bind x2.2.2.1[(Int.toNat x2.2.1)]? fun y5 =>
 (gd (decide ((0 : Int) ≤ x2.2.1))
 (gd (decide (x2.2.1 < (((List.length (List.set x2.2.2.1 (Int.toNat x2.2.1) ((y4.1, y5.1.2), y5.2))) : Nat) : Int)))
 (Option.bind (List.set x2.2.2.1 (Int.toNat x2.2.1) ((y4.1, y5.1.2), y5.2))[(Int.toNat x2.2.1)]? fun y6 =>
 (gd (decide ((0 : Int) ≤ x2.2.1))
 (gd (decide (x2.2.1 < (((List.length (List.set (List.set x2.2.2.1 (Int.toNat x2.2.1) ((y4.1, y5.1.2), y5.2)) (Int.toNat x2.2.1) ((y6.1.1, ((IntKind.wrap IntKind.i64 (x2.1 + (1 : Int))), y6.1.2.2)), y6.2))) : Nat) : Int)))
 (Option.bind (List.set (List.set x2.2.2.1 (Int.toNat x2.2.1) ((y4.1, y5.1.2), y5.2)) (Int.toNat x2.2.1) ((y6.1.1, ((IntKind.wrap IntKind.i64 (x2.1 + (1 : Int))), y6.1.2.2)), y6.2))[(Int.toNat x2.2.1)]? fun y7 =>
 (gd (decide ((0 : Int) ≤ x2.2.1))
 (gd (decide (x2.2.1 < (((List.length (List.set (List.set (List.set x2.2.2.1 (Int.toNat x2.2.1) ((y4.1, y5.1.2), y5.2)) (Int.toNat x2.2.1) ((y6.1.1, ((IntKind.wrap IntKind.i64 (x2.1 + (1 : Int))), y6.1.2.2)), y6.2)) (Int.toNat x2.2.1) ((y7.1.1, (y7.1.2.1, (((Int.tmod (IntKind.wrap IntKind.i64 ((IntKind.wrap IntKind.i64 (x2.1 + (1 : Int))) + (1 : Int))) (3 : Int)) == (0 : Int)), y7.1.2.2.2))), y7.2))) : Nat) : Int)))
 (Option.bind (List.set (List.set (List.set x2.2.2.1 (Int.toNat x2.2.1) ((y4.1, y5.1.2), y5.2)) (Int.toNat x2.2.1) ((y6.1.1, ((IntKind.wrap IntKind.i64 (x2.1 + (1 : Int))), y6.1.2.2)), y6.2)) (Int.toNat x2.2.1) ((y7.1.1, (y7.1.2.1, (((Int.tmod (IntKind.wrap IntKind.i64 ((IntKind.wrap IntKind.i64 (x2.1 + (1 : Int))) + (1 : Int))) (3 : Int)) == (0 : Int)), y7.1.2.2.2))), y7.2))[(Int.toNat x2.2.1)]? fun y8 =>
 (gd (decide ((0 : Int) ≤ x2.2.1))
 (gd (decide (x2.2.1 < (((List.length (List.set (List.set (List.set (List.set x2.2.2.1 (Int.toNat x2.2.1) ((y4.1, y5.1.2), y5.2)) (Int.toNat x2.2.1) ((y6.1.1, ((IntKind.wrap IntKind.i64 (x2.1 + (1 : Int))), y6.1.2.2)), y6.2)) (Int.toNat x2.2.1) ((y7.1.1, (y7.1.2.1, (((Int.tmod (IntKind.wrap IntKind.i64 ((IntKind.wrap IntKind.i64 (x2.1 + (1 : Int))) + (1 : Int))) (3 : Int)) == (0 : Int)), y7.1.2.2.2))), y7.2)) (Int.toNat x2.2.1) ((y8.1.1, (y8.1.2.1, (y8.1.2.2.1, (((IntKind.wrap IntKind.i64 ((IntKind.wrap IntKind.i64 ((IntKind.wrap IntKind.i64 (x2.1 + (1 : Int))) + (1 : Int))) + (1 : Int))), y8.1.2.2.2.1.2), y8.1.2.2.2.2)))), y8.2))) : Nat) : Int)))
 (Option.bind (List.set (List.set (List.set (List.set x2.2.2.1 (Int.toNat x2.2.1) ((y4.1, y5.1.2), y5.2)) (Int.toNat x2.2.1) ((y6.1.1, ((IntKind.wrap IntKind.i64 (x2.1 + (1 : Int))), y6.1.2.2)), y6.2)) (Int.toNat x2.2.1) ((y7.1.1, (y7.1.2.1, (((Int.tmod (IntKind.wrap IntKind.i64 ((IntKind.wrap IntKind.i64 (x2.1 + (1 : Int))) + (1 : Int))) (3 : Int)) == (0 : Int)), y7.1.2.2.2))), y7.2)) (Int.toNat x2.2.1) ((y8.1.1, (y8.1.2.1, (y8.1.2.2.1, (((IntKind.wrap IntKind.i64 ((IntKind.wrap IntKind.i64 ((IntKind.wrap IntKind.i64 (x2.1 + (1 : Int))) + (1 : Int))) + (1 : Int))), y8.1.2.2.2.1.2), y8.1.2.2.2.2)))), y8.2))[(Int.toNat x2.2.1)]? fun y9 =>
 (Option.bind (F47 (IntKind.wrap IntKind.i64 ((IntKind.wrap IntKind.i64 ((IntKind.wrap IntKind.i64 ((IntKind.wrap IntKind.i64 ((IntKind.wrap IntKind.i64 (x2.1 + (1 : Int))) + (1 : Int))) + (1 : Int))) + (1 : Int))) + (1 : Int)))) fun y10 =>
 (gd (decide ((0 : Int) ≤ x2.2.1))
 (gd (decide (x2.2.1 < (((List.length (List.set (List.set (List.set (List.set (List.set x2.2.2.1 (Int.toNat x2.2.1) ((y4.1, y5.1.2), y5.2)) (Int.toNat x2.2.1) ((y6.1.1, ((IntKind.wrap IntKind.i64 (x2.1 + (1 : Int))), y6.1.2.2)), y6.2)) (Int.toNat x2.2.1) ((y7.1.1, (y7.1.2.1, (((Int.tmod (IntKind.wrap IntKind.i64 ((IntKind.wrap IntKind.i64 (x2.1 + (1 : Int))) + (1 : Int))) (3 : Int)) == (0 : Int)), y7.1.2.2.2))), y7.2)) (Int.toNat x2.2.1) ((y8.1.1, (y8.1.2.1, (y8.1.2.2.1, (((IntKind.wrap IntKind.i64 ((IntKind.wrap IntKind.i64 ((IntKind.wrap IntKind.i64 (x2.1 + (1 : Int))) + (1 : Int))) + (1 : Int))), y8.1.2.2.2.1.2), y8.1.2.2.2.2)))), y8.2)) (Int.toNat x2.2.1) ((y9.1.1, (y9.1.2.1, (y9.1.2.2.1, ((y9.1.2.2.2.1.1, ((IntKind.wrap IntKind.i64 ((IntKind.wrap IntKind.i64 ((IntKind.wrap IntKind.i64 ((IntKind.wrap IntKind.i64 (x2.1 + (1 : Int))) + (1 : Int))) + (1 : Int))) + (1 : Int))), y9.1.2.2.2.1.2.2)), y9.1.2.2.2.2)))), y9.2))) : Nat) : Int)))
 (Option.bind (List.set (List.set (List.set (List.set (List.set x2.2.2.1 (Int.toNat x2.2.1) ((y4.1, y5.1.2), y5.2)) (Int.toNat x2.2.1) ((y6.1.1, ((IntKind.wrap IntKind.i64 (x2.1 + (1 : Int))), y6.1.2.2)), y6.2)) (Int.toNat x2.2.1) ((y7.1.1, (y7.1.2.1, (((Int.tmod (IntKind.wrap IntKind.i64 ((IntKind.wrap IntKind.i64 (x2.1 + (1 : Int))) + (1 : Int))) (3 : Int)) == (0 : Int)), y7.1.2.2.2))), y7.2)) (Int.toNat x2.2.1) ((y8.1.1, (y8.1.2.1, (y8.1.2.2.1, (((IntKind.wrap IntKind.i64 ((IntKind.wrap IntKind.i64 ((IntKind.wrap IntKind.i64 (x2.1 + (1 : Int))) + (1 : Int))) + (1 : Int))), y8.1.2.2.2.1.2), y8.1.2.2.2.2)))), y8.2)) (Int.toNat x2.2.1) ((y9.1.1, (y9.1.2.1, (y9.1.2.2.1, ((y9.1.2.2.2.1.1, ((IntKind.wrap IntKind.i64 ((IntKind.wrap IntKind.i64 ((IntKind.wrap IntKind.i64 ((IntKind.wrap IntKind.i64 (x2.1 + (1 : Int))) + (1 : Int))) + (1 : Int))) + (1 : Int))), y9.1.2.2.2.1.2.2)), y9.1.2.2.2.2)))), y9.2))[(Int.toNat x2.2.1)]? fun y11 =>
 (gd (decide ((0 : Int) ≤ x2.2.1))
 (gd (decide (x2.2.1 < (((List.length (List.set (List.set (List.set (List.set (List.set (List.set x2.2.2.1 (Int.toNat x2.2.1) ((y4.1, y5.1.2), y5.2)) (Int.toNat x2.2.1) ((y6.1.1, ((IntKind.wrap IntKind.i64 (x2.1 + (1 : Int))), y6.1.2.2)), y6.2)) (Int.toNat x2.2.1) ((y7.1.1, (y7.1.2.1, (((Int.tmod (IntKind.wrap IntKind.i64 ((IntKind.wrap IntKind.i64 (x2.1 + (1 : Int))) + (1 : Int))) (3 : Int)) == (0 : Int)), y7.1.2.2.2))), y7.2)) (Int.toNat x2.2.1) ((y8.1.1, (y8.1.2.1, (y8.1.2.2.1, (((IntKind.wrap IntKind.i64 ((IntKind.wrap IntKind.i64 ((IntKind.wrap IntKind.i64 (x2.1 + (1 : Int))) + (1 : Int))) + (1 : Int))), y8.1.2.2.2.1.2), y8.1.2.2.2.2)))), y8.2)) (Int.toNat x2.2.1) ((y9.1.1, (y9.1.2.1, (y9.1.2.2.1, ((y9.1.2.2.2.1.1, ((IntKind.wrap IntKind.i64 ((IntKind.wrap IntKind.i64 ((IntKind.wrap IntKind.i64 ((IntKind.wrap IntKind.i64 (x2.1 + (1 : Int))) + (1 : Int))) + (1 : Int))) + (1 : Int))), y9.1.2.2.2.1.2.2)), y9.1.2.2.2.2)))), y9.2)) (Int.toNat x2.2.1) ((y11.1.1, (y11.1.2.1, (y11.1.2.2.1, ((y11.1.2.2.2.1.1, (y11.1.2.2.2.1.2.1, (y10.1, y11.1.2.2.2.1.2.2.2))), y11.1.2.2.2.2)))), y11.2))) : Nat) : Int)))
 (Option.bind (List.set (List.set (List.set (List.set (List.set (List.set x2.2.2.1 (Int.toNat x2.2.1) ((y4.1, y5.1.2), y5.2)) (Int.toNat x2.2.1) ((y6.1.1, ((IntKind.wrap IntKind.i64 (x2.1 + (1 : Int))), y6.1.2.2)), y6.2)) (Int.toNat x2.2.1) ((y7.1.1, (y7.1.2.1, (((Int.tmod (IntKind.wrap IntKind.i64 ((IntKind.wrap IntKind.i64 (x2.1 + (1 : Int))) + (1 : Int))) (3 : Int)) == (0 : Int)), y7.1.2.2.2))), y7.2)) (Int.toNat x2.2.1) ((y8.1.1, (y8.1.2.1, (y8.1.2.2.1, (((IntKind.wrap IntKind.i64 ((IntKind.wrap IntKind.i64 ((IntKind.wrap IntKind.i64 (x2.1 + (1 : Int))) + (1 : Int))) + (1 : Int))), y8.1.2.2.2.1.2), y8.1.2.2.2.2)))), y8.2)) (Int.toNat x2.2.1) ((y9.1.1, (y9.1.2.1, (y9.1.2.2.1, ((y9.1.2.2.2.1.1, ((IntKind.wrap IntKind.i64 ((IntKind.wrap IntKind.i64 ((IntKind.wrap IntKind.i64 ((IntKind.wrap IntKind.i64 (x2.1 + (1 : Int))) + (1 : Int))) + (1 : Int))) + (1 : Int))), y9.1.2.2.2.1.2.2)), y9.1.2.2.2.2)))), y9.2)) (Int.toNat x2.2.1) ((y11.1.1, (y11.1.2.1, (y11.1.2.2.1, ((y11.1.2.2.2.1.1, (y11.1.2.2.2.1.2.1, (y10.1, y11.1.2.2.2.1.2.2.2))), y11.1.2.2.2.2)))), y11.2))[(Int.toNat x2.2.1)]? fun y12 =>
 (gd (decide ((0 : Int) ≤ x2.2.1))
 (gd (decide (x2.2.1 < (((List.length (List.set (List.set (List.set (List.set (List.set (List.set (List.set x2.2.2.1 (Int.toNat x2.2.1) ((y4.1, y5.1.2), y5.2)) (Int.toNat x2.2.1) ((y6.1.1, ((IntKind.wrap IntKind.i64 (x2.1 + (1 : Int))), y6.1.2.2)), y6.2)) (Int.toNat x2.2.1) ((y7.1.1, (y7.1.2.1, (((Int.tmod (IntKind.wrap IntKind.i64 ((IntKind.wrap IntKind.i64 (x2.1 + (1 : Int))) + (1 : Int))) (3 : Int)) == (0 : Int)), y7.1.2.2.2))), y7.2)) (Int.toNat x2.2.1) ((y8.1.1, (y8.1.2.1, (y8.1.2.2.1, (((IntKind.wrap IntKind.i64 ((IntKind.wrap IntKind.i64 ((IntKind.wrap IntKind.i64 (x2.1 + (1 : Int))) + (1 : Int))) + (1 : Int))), y8.1.2.2.2.1.2), y8.1.2.2.2.2)))), y8.2)) (Int.toNat x2.2.1) ((y9.1.1, (y9.1.2.1, (y9.1.2.2.1, ((y9.1.2.2.2.1.1, ((IntKind.wrap IntKind.i64 ((IntKind.wrap IntKind.i64 ((IntKind.wrap IntKind.i64 ((IntKind.wrap IntKind.i64 (x2.1 + (1 : Int))) + (1 : Int))) + (1 : Int))) + (1 : Int))), y9.1.2.2.2.1.2.2)), y9.1.2.2.2.2)))), y9.2)) (Int.toNat x2.2.1) ((y11.1.1, (y11.1.2.1, (y11.1.2.2.1, ((y11.1.2.2.2.1.1, (y11.1.2.2.2.1.2.1, (y10.1, y11.1.2.2.2.1.2.2.2))), y11.1.2.2.2.2)))), y11.2)) (Int.toNat x2.2.1) (y12.1, (((IntKind.wrap IntKind.i64 ((IntKind.wrap IntKind.i64 ((IntKind.wrap IntKind.i64 ((IntKind.wrap IntKind.i64 ((IntKind.wrap IntKind.i64 ((IntKind.wrap IntKind.i64 (x2.1 + (1 : Int))) + (1 : Int))) + (1 : Int))) + (1 : Int))) + (1 : Int))) + (1 : Int))), y12.2.1.2), y12.2.2)))) : Nat) : Int)))
 (Option.bind (List.set (List.set (List.set (List.set (List.set (List.set (List.set x2.2.2.1 (Int.toNat x2.2.1) ((y4.1, y5.1.2), y5.2)) (Int.toNat x2.2.1) ((y6.1.1, ((IntKind.wrap IntKind.i64 (x2.1 + (1 : Int))), y6.1.2.2)), y6.2)) (Int.toNat x2.2.1) ((y7.1.1, (y7.1.2.1, (((Int.tmod (IntKind.wrap IntKind.i64 ((IntKind.wrap IntKind.i64 (x2.1 + (1 : Int))) + (1 : Int))) (3 : Int)) == (0 : Int)), y7.1.2.2.2))), y7.2)) (Int.toNat x2.2.1) ((y8.1.1, (y8.1.2.1, (y8.1.2.2.1, (((IntKind.wrap IntKind.i64 ((IntKind.wrap IntKind.i64 ((IntKind.wrap IntKind.i64 (x2.1 + (1 : Int))) + (1 : Int))) + (1 : Int))), y8.1.2.2.2.1.2), y8.1.2.2.2.2)))), y8.2)) (Int.toNat x2.2.1) ((y9.1.1, (y9.1.2.1, (y9.1.2.2.1, ((y9.1.2.2.2.1.1, ((IntKind.wrap IntKind.i64 ((IntKind.wrap IntKind.i64 ((IntKind.wrap IntKind.i64 ((IntKind.wrap IntKind.i64 (x2.1 + (1 : Int))) + (1 : Int))) + (1 : Int))) + (1 : Int))), y9.1.2.2.2.1.2.2)), y9.1.2.2.2.2)))), y9.2)) (Int.toNat x2.2.1) ((y11.1.1, (y11.1.2.1, (y11.1.2.2.1, ((y11.1.2.2.2.1.1, (y11.1.2.2.2.1.2.1, (y10.1, y11.1.2.2.2.1.2.2.2))), y11.1.2.2.2.2)))), y11.2)) (Int.toNat x2.2.1) (y12.1, (((IntKind.wrap IntKind.i64 ((IntKind.wrap IntKind.i64 ((IntKind.wrap IntKind.i64 ((IntKind.wrap IntKind.i64 ((IntKind.wrap IntKind.i64 ((IntKind.wrap IntKind.i64 (x2.1 + (1 : Int))) + (1 : Int))) + (1 : Int))) + (1 : Int))) + (1 : Int))) + (1 : Int))), y12.2.1.2), y12.2.2)))[(Int.toNat x2.2.1)]? fun y13 =>
 (Option.bind (F47 (IntKind.wrap IntKind.i64 ((IntKind.wrap IntKind.i64 ((IntKind.wrap IntKind.i64 ((IntKind.wrap IntKind.i64 ((IntKind.wrap IntKind.i64 ((IntKind.wrap IntKind.i64 ((IntKind.wrap IntKind.i64 ((IntKind.wrap IntKind.i64 (x2.1 + (1 : Int))) + (1 : Int))) + (1 : Int))) + (1 : Int))) + (1 : Int))) + (1 : Int))) + (1 : Int))) + (1 : Int)))) fun y14 =>
 (gd (decide ((0 : Int) ≤ x2.2.1))
 (gd (decide (x2.2.1 < (((List.length (List.set (List.set (List.set (List.set (List.set (List.set (List.set (List.set x2.2.2.1 (Int.toNat x2.2.1) ((y4.1, y5.1.2), y5.2)) (Int.toNat x2.2.1) ((y6.1.1, ((IntKind.wrap IntKind.i64 (x2.1 + (1 : Int))), y6.1.2.2)), y6.2)) (Int.toNat x2.2.1) ((y7.1.1, (y7.1.2.1, (((Int.tmod (IntKind.wrap IntKind.i64 ((IntKind.wrap IntKind.i64 (x2.1 + (1 : Int))) + (1 : Int))) (3 : Int)) == (0 : Int)), y7.1.2.2.2))), y7.2)) (Int.toNat x2.2.1) ((y8.1.1, (y8.1.2.1, (y8.1.2.2.1, (((IntKind.wrap IntKind.i64 ((IntKind.wrap IntKind.i64 ((IntKind.wrap IntKind.i64 (x2.1 + (1 : Int))) + (1 : Int))) + (1 : Int))), y8.1.2.2.2.1.2), y8.1.2.2.2.2)))), y8.2)) (Int.toNat x2.2.1) ((y9.1.1, (y9.1.2.1, (y9.1.2.2.1, ((y9.1.2.2.2.1.1, ((IntKind.wrap IntKind.i64 ((IntKind.wrap IntKind.i64 ((IntKind.wrap IntKind.i64 ((IntKind.wrap IntKind.i64 (x2.1 + (1 : Int))) + (1 : Int))) + (1 : Int))) + (1 : Int))), y9.1.2.2.2.1.2.2)), y9.1.2.2.2.2)))), y9.2)) (Int.toNat x2.2.1) ((y11.1.1, (y11.1.2.1, (y11.1.2.2.1, ((y11.1.2.2.2.1.1, (y11.1.2.2.2.1.2.1, (y10.1, y11.1.2.2.2.1.2.2.2))), y11.1.2.2.2.2)))), y11.2)) (Int.toNat x2.2.1) (y12.1, (((IntKind.wrap IntKind.i64 ((IntKind.wrap IntKind.i64 ((IntKind.wrap IntKind.i64 ((IntKind.wrap IntKind.i64 ((IntKind.wrap IntKind.i64 ((IntKind.wrap IntKind.i64 (x2.1 + (1 : Int))) + (1 : Int))) + (1 : Int))) + (1 : Int))) + (1 : Int))) + (1 : Int))), y12.2.1.2), y12.2.2))) (Int.toNat x2.2.1) (y13.1, ((y13.2.1.1, ((IntKind.wrap IntKind.i64 ((IntKind.wrap IntKind.i64 ((IntKind.wrap IntKind.i64 ((IntKind.wrap IntKind.i64 ((IntKind.wrap IntKind.i64 ((IntKind.wrap IntKind.i64 ((IntKind.wrap IntKind.i64 (x2.1 + (1 : Int))) + (1 : Int))) + (1 : Int))) + (1 : Int))) + (1 : Int))) + (1 : Int))) + (1 : Int))), y13.2.1.2.2)), y13.2.2)))) : Nat) : Int)))
 (Option.bind (List.set (List.set (List.set (List.set (List.set (List.set (List.set (List.set x2.2.2.1 (Int.toNat x2.2.1) ((y4.1, y5.1.2), y5.2)) (Int.toNat x2.2.1) ((y6.1.1, ((IntKind.wrap IntKind.i64 (x2.1 + (1 : Int))), y6.1.2.2)), y6.2)) (Int.toNat x2.2.1) ((y7.1.1, (y7.1.2.1, (((Int.tmod (IntKind.wrap IntKind.i64 ((IntKind.wrap IntKind.i64 (x2.1 + (1 : Int))) + (1 : Int))) (3 : Int)) == (0 : Int)), y7.1.2.2.2))), y7.2)) (Int.toNat x2.2.1) ((y8.1.1, (y8.1.2.1, (y8.1.2.2.1, (((IntKind.wrap IntKind.i64 ((IntKind.wrap IntKind.i64 ((IntKind.wrap IntKind.i64 (x2.1 + (1 : Int))) + (1 : Int))) + (1 : Int))), y8.1.2.2.2.1.2), y8.1.2.2.2.2)))), y8.2)) (Int.toNat x2.2.1) ((y9.1.1, (y9.1.2.1, (y9.1.2.2.1, ((y9.1.2.2.2.1.1, ((IntKind.wrap IntKind.i64 ((IntKind.wrap IntKind.i64 ((IntKind.wrap IntKind.i64 ((IntKind.wrap IntKind.i64 (x2.1 + (1 : Int))) + (1 : Int))) + (1 : Int))) + (1 : Int))), y9.1.2.2.2.1.2.2)), y9.1.2.2.2.2)))), y9.2)) (Int.toNat x2.2.1) ((y11.1.1, (y11.1.2.1, (y11.1.2.2.1, ((y11.1.2.2.2.1.1, (y11.1.2.2.2.1.2.1, (y10.1, y11.1.2.2.2.1.2.2.2))), y11.1.2.2.2.2)))), y11.2)) (Int.toNat x2.2.1) (y12.1, (((IntKind.wrap IntKind.i64 ((IntKind.wrap IntKind.i64 ((IntKind.wrap IntKind.i64 ((IntKind.wrap IntKind.i64 ((IntKind.wrap IntKind.i64 ((IntKind.wrap IntKind.i64 (x2.1 + (1 : Int))) + (1 : Int))) + (1 : Int))) + (1 : Int))) + (1 : Int))) + (1 : Int))), y12.2.1.2), y12.2.2))) (Int.toNat x2.2.1) (y13.1, ((y13.2.1.1, ((IntKind.wrap IntKind.i64 ((IntKind.wrap IntKind.i64 ((IntKind.wrap IntKind.i64 ((IntKind.wrap IntKind.i64 ((IntKind.wrap IntKind.i64 ((IntKind.wrap IntKind.i64 ((IntKind.wrap IntKind.i64 (x2.1 + (1 : Int))) + (1 : Int))) + (1 : Int))) + (1 : Int))) + (1 : Int))) + (1 : Int))) + (1 : Int))), y13.2.1.2.2)), y13.2.2)))[(Int.toNat x2.2.1)]? fun y15 =>
 (gd (decide ((0 : Int) ≤ x2.2.1))
 (gd (decide (x2.2.1 < (((List.length (List.set (List.set (List.set (List.set (List.set (List.set (List.set (List.set (List.set x2.2.2.1 (Int.toNat x2.2.1) ((y4.1, y5.1.2), y5.2)) (Int.toNat x2.2.1) ((y6.1.1, ((IntKind.wrap IntKind.i64 (x2.1 + (1 : Int))), y6.1.2.2)), y6.2)) (Int.toNat x2.2.1) ((y7.1.1, (y7.1.2.1, (((Int.tmod (IntKind.wrap IntKind.i64 ((IntKind.wrap IntKind.i64 (x2.1 + (1 : Int))) + (1 : Int))) (3 : Int)) == (0 : Int)), y7.1.2.2.2))), y7.2)) (Int.toNat x2.2.1) ((y8.1.1, (y8.1.2.1, (y8.1.2.2.1, (((IntKind.wrap IntKind.i64 ((IntKind.wrap IntKind.i64 ((IntKind.wrap IntKind.i64 (x2.1 + (1 : Int))) + (1 : Int))) + (1 : Int))), y8.1.2.2.2.1.2), y8.1.2.2.2.2)))), y8.2)) (Int.toNat x2.2.1) ((y9.1.1, (y9.1.2.1, (y9.1.2.2.1, ((y9.1.2.2.2.1.1, ((IntKind.wrap IntKind.i64 ((IntKind.wrap IntKind.i64 ((IntKind.wrap IntKind.i64 ((IntKind.wrap IntKind.i64 (x2.1 + (1 : Int))) + (1 : Int))) + (1 : Int))) + (1 : Int))), y9.1.2.2.2.1.2.2)), y9.1.2.2.2.2)))), y9.2)) (Int.toNat x2.2.1) ((y11.1.1, (y11.1.2.1, (y11.1.2.2.1, ((y11.1.2.2.2.1.1, (y11.1.2.2.2.1.2.1, (y10.1, y11.1.2.2.2.1.2.2.2))), y11.1.2.2.2.2)))), y11.2)) (Int.toNat x2.2.1) (y12.1, (((IntKind.wrap IntKind.i64 ((IntKind.wrap IntKind.i64 ((IntKind.wrap IntKind.i64 ((IntKind.wrap IntKind.i64 ((IntKind.wrap IntKind.i64 ((IntKind.wrap IntKind.i64 (x2.1 + (1 : Int))) + (1 : Int))) + (1 : Int))) + (1 : Int))) + (1 : Int))) + (1 : Int))), y12.2.1.2), y12.2.2))) (Int.toNat x2.2.1) (y13.1, ((y13.2.1.1, ((IntKind.wrap IntKind.i64 ((IntKind.wrap IntKind.i64 ((IntKind.wrap IntKind.i64 ((IntKind.wrap IntKind.i64 ((IntKind.wrap IntKind.i64 ((IntKind.wrap IntKind.i64 ((IntKind.wrap IntKind.i64 (x2.1 + (1 : Int))) + (1 : Int))) + (1 : Int))) + (1 : Int))) + (1 : Int))) + (1 : Int))) + (1 : Int))), y13.2.1.2.2)), y13.2.2))) (Int.toNat x2.2.1) (y15.1, ((y15.2.1.1, (y15.2.1.2.1, (y14.1, y15.2.1.2.2.2))), y15.2.2)))) : Nat) : Int)))
 (Option.bind (List.set (List.set (List.set (List.set (List.set (List.set (List.set (List.set (List.set x2.2.2.1 (Int.toNat x2.2.1) ((y4.1, y5.1.2), y5.2)) (Int.toNat x2.2.1) ((y6.1.1, ((IntKind.wrap IntKind.i64 (x2.1 + (1 : Int))), y6.1.2.2)), y6.2)) (Int.toNat x2.2.1) ((y7.1.1, (y7.1.2.1, (((Int.tmod (IntKind.wrap IntKind.i64 ((IntKind.wrap IntKind.i64 (x2.1 + (1 : Int))) + (1 : Int))) (3 : Int)) == (0 : Int)), y7.1.2.2.2))), y7.2)) (Int.toNat x2.2.1) ((y8.1.1, (y8.1.2.1, (y8.1.2.2.1, (((IntKind.wrap IntKind.i64 ((IntKind.wrap IntKind.i64 ((IntKind.wrap IntKind.i64 (x2.1 + (1 : Int))) + (1 : Int))) + (1 : Int))), y8.1.2.2.2.1.2), y8.1.2.2.2.2)))), y8.2)) (Int.toNat x2.2.1) ((y9.1.1, (y9.1.2.1, (y9.1.2.2.1, ((y9.1.2.2.2.1.1, ((IntKind.wrap IntKind.i64 ((IntKind.wrap IntKind.i64 ((IntKind.wrap IntKind.i64 ((IntKind.wrap IntKind.i64 (x2.1 + (1 : Int))) + (1 : Int))) + (1 : Int))) + (1 : Int))), y9.1.2.2.2.1.2.2)), y9.1.2.2.2.2)))), y9.2)) (Int.toNat x2.2.1) ((y11.1.1, (y11.1.2.1, (y11.1.2.2.1, ((y11.1.2.2.2.1.1, (y11.1.2.2.2.1.2.1, (y10.1, y11.1.2.2.2.1.2.2.2))), y11.1.2.2.2.2)))), y11.2)) (Int.toNat x2.2.1) (y12.1, (((IntKind.wrap IntKind.i64 ((IntKind.wrap IntKind.i64 ((IntKind.wrap IntKind.i64 ((IntKind.wrap IntKind.i64 ((IntKind.wrap IntKind.i64 ((IntKind.wrap IntKind.i64 (x2.1 + (1 : Int))) + (1 : Int))) + (1 : Int))) + (1 : Int))) + (1 : Int))) + (1 : Int))), y12.2.1.2), y12.2.2))) (Int.toNat x2.2.1) (y13.1, ((y13.2.1.1, ((IntKind.wrap IntKind.i64 ((IntKind.wrap IntKind.i64 ((IntKind.wrap IntKind.i64 ((IntKind.wrap IntKind.i64 ((IntKind.wrap IntKind.i64 ((IntKind.wrap IntKind.i64 ((IntKind.wrap IntKind.i64 (x2.1 + (1 : Int))) + (1 : Int))) + (1 : Int))) + (1 : Int))) + (1 : Int))) + (1 : Int))) + (1 : Int))), y13.2.1.2.2)), y13.2.2))) (Int.toNat x2.2.1) (y15.1, ((y15.2.1.1, (y15.2.1.2.1, (y14.1, y15.2.1.2.2.2))), y15.2.2)))[(Int.toNat x2.2.1)]? fun y16 =>
 (rec ((IntKind.wrap IntKind.i64 ((IntKind.wrap IntKind.i64 ((IntKind.wrap IntKind.i64 ((IntKind.wrap IntKind.i64 ((IntKind.wrap IntKind.i64 ((IntKind.wrap IntKind.i64 ((IntKind.wrap IntKind.i64 ((IntKind.wrap IntKind.i64 ((IntKind.wrap IntKind.i64 ((IntKind.wrap IntKind.i64 (x2.1 + (1 : Int))) + (1 : Int))) + (1 : Int))) + (1 : Int))) + (1 : Int))) + (1 : Int))) + (1 : Int))) + (1 : Int))) + (1 : Int))) + (1 : Int))), (IntKind.wrap IntKind.i64 (x2.2.1 + (1 : Int))), (List.set (List.set (List.set (List.set (List.set (List.set (List.set (List.set (List.set (List.set x2.2.2.1 (Int.toNat x2.2.1) ((y4.1, y5.1.2), y5.2)) (Int.toNat x2.2.1) ((y6.1.1, ((IntKind.wrap IntKind.i64 (x2.1 + (1 : Int))), y6.1.2.2)), y6.2)) (Int.toNat x2.2.1) ((y7.1.1, (y7.1.2.1, (((Int.tmod (IntKind.wrap IntKind.i64 ((IntKind.wrap IntKind.i64 (x2.1 + (1 : Int))) + (1 : Int))) (3 : Int)) == (0 : Int)), y7.1.2.2.2))), y7.2)) (Int.toNat x2.2.1) ((y8.1.1, (y8.1.2.1, (y8.1.2.2.1, (((IntKind.wrap IntKind.i64 ((IntKind.wrap IntKind.i64 ((IntKind.wrap IntKind.i64 (x2.1 + (1 : Int))) + (1 : Int))) + (1 : Int))), y8.1.2.2.2.1.2), y8.1.2.2.2.2)))), y8.2)) (Int.toNat x2.2.1) ((y9.1.1, (y9.1.2.1, (y9.1.2.2.1, ((y9.1.2.2.2.1.1, ((IntKind.wrap IntKind.i64 ((IntKind.wrap IntKind.i64 ((IntKind.wrap IntKind.i64 ((IntKind.wrap IntKind.i64 (x2.1 + (1 : Int))) + (1 : Int))) + (1 : Int))) + (1 : Int))), y9.1.2.2.2.1.2.2)), y9.1.2.2.2.2)))), y9.2)) (Int.toNat x2.2.1) ((y11.1.1, (y11.1.2.1, (y11.1.2.2.1, ((y11.1.2.2.2.1.1, (y11.1.2.2.2.1.2.1, (y10.1, y11.1.2.2.2.1.2.2.2))), y11.1.2.2.2.2)))), y11.2)) (Int.toNat x2.2.1) (y12.1, (((IntKind.wrap IntKind.i64 ((IntKind.wrap IntKind.i64 ((IntKind.wrap IntKind.i64 ((IntKind.wrap IntKind.i64 ((IntKind.wrap IntKind.i64 ((IntKind.wrap IntKind.i64 (x2.1 + (1 : Int))) + (1 : Int))) + (1 : Int))) + (1 : Int))) + (1 : Int))) + (1 : Int))), y12.2.1.2), y12.2.2))) (Int.toNat x2.2.1) (y13.1, ((y13.2.1.1, ((IntKind.wrap IntKind.i64 ((IntKind.wrap IntKind.i64 ((IntKind.wrap IntKind.i64 ((IntKind.wrap IntKind.i64 ((IntKind.wrap IntKind.i64 ((IntKind.wrap IntKind.i64 ((IntKind.wrap IntKind.i64 (x2.1 + (1 : Int))) + (1 : Int))) + (1 : Int))) + (1 : Int))) + (1 : Int))) + (1 : Int))) + (1 : Int))), y13.2.1.2.2)), y13.2.2))) (Int.toNat x2.2.1) (y15.1, ((y15.2.1.1, (y15.2.1.2.1, (y14.1, y15.2.1.2.2.2))), y15.2.2))) (Int.toNat x2.2.1) (y16.1, (y16.2.1, (((Int.tmod (IntKind.wrap IntKind.i64 ((IntKind.wrap IntKind.i64 ((IntKind.wrap IntKind.i64 ((IntKind.wrap IntKind.i64 ((IntKind.wrap IntKind.i64 ((IntKind.wrap IntKind.i64 ((IntKind.wrap IntKind.i64 ((IntKind.wrap IntKind.i64 ((IntKind.wrap IntKind.i64 (x2.1 + (1 : Int))) + (1 : Int))) + (1 : Int))) + (1 : Int))) + (1 : Int))) + (1 : Int))) + (1 : Int))) + (1 : Int))) + (1 : Int))) (3 : Int)) == (0 : Int)), y16.2.2.2)))), ())))))))))))))))))))))))))))))))))))
 (e0_0 (x2.1, x2.2.2.1, ())))
noncomputable def F52 (a0 : List (D142)) (a1 : Int) : Option (Int × List (D142) × Unit) :=
 (iter (F52_R2
 (fun y17 =>
 (some (y17.1, (y17.2.1, ()))))) fuel (a1, (0 : Int), a0, ()))
noncomputable def C52 : Fun := ⟨[(.io (.slice Y142) (.own .z)), (.ro (.int .i64))], [((.int .i64), .z)], fun z => F52 z.1 z.2.1⟩
noncomputable def E52 : Env := ⟨102, tyTab tys, oneTab ones, fnTab [(47, C47)], false, [], [(2, [0, 1, 5], [4]), (4, [0, 1, 5], [4]), (24, [1], [4]), (100000, [1], [4]), (100001, [0, 1, 5], [4]), (99999, [4], [4])], none, []⟩
noncomputable def L52 : List (LoopS (Int × List (D142) × Unit)) := [⟨2, ⟨[(0, (.ref (.slice Y142) 4 [])), (1, (.pv (.int .i64))), (5, (.pv (.int .i64)))], [(4, (.data false (.slice Y142) (.own .z)))]⟩, fun κ => F52_R2 (fun y => κ.exit 0 (SSh.mk' ⟨[(1, (.pv (.int .i64)))], [(4, (.data false (.slice Y142) (.own .z)))]⟩ y))⟩]
theorem L52_2 : ∀ p : Option Src, RoundEq { E52 with pin := p } L52 L52[0] (nthLoop (codeOf Tryz.f52) 0) := fun p κ N x => by kernel_rfl
theorem C52_ok : IoOk Tryz.prog 52 C52 := tO E52 L52 [nthLoop (codeOf Tryz.f52) 0] Tryz.func52 ty_ok (.cons C47_ok .nil) (fun p => (.cons L52[0] (by kernel_rfl) (L52_2 p) .nil))
noncomputable def F26_R2 (e0_0 : Int × List (D71) × Unit → Option (Int × List (D71) × Unit)) (rec : Int × Int × List (D71) × Unit → Option (Int × List (D71) × Unit)) (x2 : Int × Int × List (D71) × Unit) : Option (Int × List (D71) × Unit) :=
 (cond (decide (x2.2.1 < (((List.length x2.2.2.1) : Nat) : Int)))
 (gd (decide ((0 : Int) ≤ x2.2.1))
 (gd (decide (x2.2.1 < (((List.length x2.2.2.1) : Nat) : Int)))
 (Option.bind x2.2.2.1[(Int.toNat x2.2.1)]? fun y4 =>
 (gd (decide ((0 : Int) ≤ x2.2.1))
 (gd (decide (x2.2.1 < (((List.length (List.set x2.2.2.1 (Int.toNat x2.2.1) (x2.1, y4.2))) : Nat) : Int)))
 (Option.bind (List.set x2.2.2.1 (Int.toNat x2.2.1) (x2.1, y4.2))[(Int.toNat x2.2.1)]? fun y5 =>
 (gd (decide ((0 : Int) ≤ x2.2.1))
 (gd (decide (x2.2.1 < (((List.length (List.set (List.set x2.2.2.1 (Int.toNat x2.2.1) (x2.1, y4.2)) (Int.toNat x2.2.1) (y5.1, ((IntKind.wrap IntKind.i64 (x2.1 + (1 : Int))), y5.2.2)))) : Nat) : Int)))
 (Option.bind (List.set (List.set x2.2.2.1 (Int.toNat x2.2.1) (x2.1, y4.2)) (Int.toNat x2.2.1) (y5.1, ((IntKind.wrap IntKind.i64 (x2.1 + (1 : Int))), y5.2.2)))[(Int.toNat x2.2.1)]? fun y6 =>
 (Option.bind (List.set (List.set x2.2.2.1 (Int.toNat x2.2.1) (x2.1, y4.2)) (Int.toNat x2.2.1) (y5.1, ((IntKind.wrap IntKind.i64 (x2.1 + (1 : Int))), y5.2.2)))[(Int.toNat x2.2.1)]? fun y7 =>
 (Option.bind (F50 y7.2.2.1 (IntKind.wrap IntKind.i64 ((IntKind.wrap IntKind.i64 (x2.1 + (1 : Int))) + (1 : Int)))) fun y8 =>
 (Option.bind (List.set (List.set x2.2.2.1 (Int.toNat x2.2.1) (x2.1, y4.2)) (Int.toNat x2.2.1) (y5.1, ((IntKind.wrap IntKind.i64 (x2.1 + (1 : Int))), y5.2.2)))[(Int.toNat x2.2.1)]? fun y9 =>
 (gd (decide ((0 : Int) ≤ x2.2.1))
 (gd (decide (x2.2.1 < (((List.length (List.set (List.set (List.set x2.2.2.1 (Int.toNat x2.2.1) (x2.1, y4.2)) (Int.toNat x2.2.1) (y5.1, ((IntKind.wrap IntKind.i64 (x2.1 + (1 : Int))), y5.2.2))) (Int.toNat x2.2.1) (y9.1, (y9.2.1, (y8.2.1, y9.2.2.2))))) : Nat) : Int)))
 (Option.bind (List.set (List.set (List.set x2.2.2.1 (Int.toNat x2.2.1) (x2.1, y4.2)) (Int.toNat x2.2.1) (y5.1, ((IntKind.wrap IntKind.i64 (x2.1 + (1 : Int))), y5.2.2))) (Int.toNat x2.2.1) (y9.1, (y9.2.1, (y8.2.1, y9.2.2.2))))[(Int.toNat x2.2.1)]? fun y10 =>
 (Option.bind (List.set (List.set (List.set x2.2.2.1 (Int.toNat x2.2.1) (x2.1, y4.2)) (Int.toNat x2.2.1) (y5.1, ((IntKind.wrap IntKind.i64 (x2.1 + (1 : Int))), y5.2.2))) (Int.toNat x2.2.1) (y9.1, (y9.2.1, (y8.2.1, y9.2.2.2))))[(Int.toNat x2.2.1)]? fun y11 =>
 (Option.bind (F52 y11.2.2.2.1 y8.1) fun y12 =>
 (Option.bind (List.set (List.set (List.set x2.2.2.1 (Int.toNat x2.2.1) (x2.1, y4.2)) (Int.toNat x2.2.1) (y5.1, ((IntKind.wrap IntKind.i64 (x2.1 + (1 : Int))), y5.2.2))) (Int.toNat x2.2.1) (y9.1, (y9.2.1, (y8.2.1, y9.2.2.2))))[(Int.toNat x2.2.1)]? fun y13 =>
 (gd (decide ((0 : Int) ≤ x2.2.1))
 (gd (decide (x2.2.1 < (((List.length (List.set (List.set (List.set (List.set x2.2.2.1 (Int.toNat x2.2.1) (x2.1, y4.2)) (Int.toNat x2.2.1) (y5.1, ((IntKind.wrap IntKind.i64 (x2.1 + (1 : Int))), y5.2.2))) (Int.toNat x2.2.1) (y9.1, (y9.2.1, (y8.2.1, y9.2.2.2)))) (Int.toNat x2.2.1) (y13.1, (y13.2.1, (y13.2.2.1, (y12.2.1, y13.2.2.2.2)))))) : Nat) : Int)))
 (Option.bind (List.set (List.set (List.set (List.set x2.2.2.1 (Int.toNat x2.2.1) (x2.1, y4.2)) (Int.toNat x2.2.1) (y5.1, ((IntKind.wrap IntKind.i64 (x2.1 + (1 : Int))), y5.2.2))) (Int.toNat x2.2.1) (y9.1, (y9.2.1, (y8.2.1, y9.2.2.2)))) (Int.toNat x2.2.1) (y13.1, (y13.2.1, (y13.2.2.1, (y12.2.1, y13.2.2.2.2)))))[(Int.toNat x2.2.1)]? fun y14 =>
 (gd (decide ((0 : Int) ≤ x2.2.1))
 (gd (decide (x2.2.1 < (((List.length (List.set (List.set (List.set (List.set (List.set x2.2.2.1 (Int.toNat x2.2.1) (x2.1, y4.2)) (Int.toNat x2.2.1) (y5.1, ((IntKind.wrap IntKind.i64 (x2.1 + (1 : Int))), y5.2.2))) (Int.toNat x2.2.1) (y9.1, (y9.2.1, (y8.2.1, y9.2.2.2)))) (Int.toNat x2.2.1) (y13.1, (y13.2.1, (y13.2.2.1, (y12.2.1, y13.2.2.2.2))))) (Int.toNat x2.2.1) (y14.1, (y14.2.1, (y14.2.2.1, (y14.2.2.2.1, (((Int.tmod y12.1 (3 : Int)) == (0 : Int)), y14.2.2.2.2.2))))))) : Nat) : Int)))
 (Option.bind (List.set (List.set (List.set (List.set (List.set x2.2.2.1 (Int.toNat x2.2.1) (x2.1, y4.2)) (Int.toNat x2.2.1) (y5.1, ((IntKind.wrap IntKind.i64 (x2.1 + (1 : Int))), y5.2.2))) (Int.toNat x2.2.1) (y9.1, (y9.2.1, (y8.2.1, y9.2.2.2)))) (Int.toNat x2.2.1) (y13.1, (y13.2.1, (y13.2.2.1, (y12.2.1, y13.2.2.2.2))))) (Int.toNat x2.2.1) (y14.1, (y14.2.1, (y14.2.2.1, (y14.2.2.2.1, (((Int.tmod y12.1 (3 : Int)) == (0 : Int)), y14.2.2.2.2.2))))))[(Int.toNat x2.2.1)]? fun y15 =>
 (rec ((IntKind.wrap IntKind.i64 ((IntKind.wrap IntKind.i64 (y12.1 + (1 : Int))) + (1 : Int))), (IntKind.wrap IntKind.i64 (x2.2.1 + (1 : Int))), (List.set (List.set (List.set (List.set (List.set (List.set x2.2.2.1 (Int.toNat x2.2.1) (x2.1, y4.2)) (Int.toNat x2.2.1) (y5.1, ((IntKind.wrap IntKind.i64 (x2.1 + (1 : Int))), y5.2.2))) (Int.toNat x2.2.1) (y9.1, (y9.2.1, (y8.2.1, y9.2.2.2)))) (Int.toNat x2.2.1) (y13.1, (y13.2.1, (y13.2.2.1, (y12.2.1, y13.2.2.2.2))))) (Int.toNat x2.2.1) (y14.1, (y14.2.1, (y14.2.2.1, (y14.2.2.2.1, (((Int.tmod y12.1 (3 : Int)) == (0 : Int)), y14.2.2.2.2.2)))))) (Int.toNat x2.2.1) (y15.1, (y15.2.1, (y15.2.2.1, (y15.2.2.2.1, (y15.2.2.2.2.1, (((Int.tmod (IntKind.wrap IntKind.i64 (y12.1 + (1 : Int))) (3 : Int)) == (0 : Int)), y15.2.2.2.2.2.2))))))), ()))))))))))))))))))))))))))
 (e0_0 (x2.1, x2.2.2.1, ())))
noncomputable def F26 (a0 : List (D71)) (a1 : Int) : Option (Int × List (D71) × Unit) :=
 (iter (F26_R2
 (fun y16 =>
 (some (y16.1, (y16.2.1, ()))))) fuel (a1, (0 : Int), a0, ()))
noncomputable def C26 : Fun := ⟨[(.io (.slice Y71) (.own (.pr .z (.pr .z (.pr (.own (.pr .z (.pr (.pr (.own (.pr (.own .z) .z)) .z) .z))) (.pr (.own .z) .z)))))), (.ro (.int .i64))], [((.int .i64), .z)], fun z => F26 z.1 z.2.1⟩
noncomputable def E26 : Env := ⟨59, tyTab tys, oneTab ones, fnTab [(50, C50), (52, C52)], false, [], [(2, [0, 1, 5], [4]), (4, [0, 1, 5], [4]), (14, [1], [4]), (100000, [1], [4]), (100001, [0, 1, 5], [4]), (99999, [4], [4])], none, []⟩
noncomputable def L26 : List (LoopS (Int × List (D71) × Unit)) := [⟨2, ⟨[(0, (.ref (.slice Y71) 4 [])), (1, (.pv (.int .i64))), (5, (.pv (.int .i64)))], [(4, (.data false (.slice Y71) (.own (.pr .z (.pr .z (.pr (.own (.pr .z (.pr (.pr (.own (.pr (.own .z) .z)) .z) .z))) (.pr (.own .z) .z)))))))]⟩, fun κ => F26_R2 (fun y => κ.exit 0 (SSh.mk' ⟨[(1, (.pv (.int .i64)))], [(4, (.data false (.slice Y71) (.own (.pr .z (.pr .z (.pr (.own (.pr .z (.pr (.pr (.own (.pr (.own .z) .z)) .z) .z))) (.pr (.own .z) .z)))))))]⟩ y))⟩]
theorem L26_2 : ∀ p : Option Src, RoundEq { E26 with pin := p } L26 L26[0] (nthLoop (codeOf Tryz.f26) 0) := fun p κ N x => by kernel_rfl
theorem C26_ok : IoOk Tryz.prog 26 C26 := tO E26 L26 [nthLoop (codeOf Tryz.f26) 0] Tryz.func26 ty_ok (.consIo C50_ok (.consIo C52_ok .nil)) (fun p => (.cons L26[0] (by kernel_rfl) (L26_2 p) .nil))
noncomputable def F10 (a0 : D25) (a1 : Int) : Option (Int × Unit) :=
 (Option.bind (F24 a0.1 a1) fun y0 =>
 (Option.bind (F25 a0.2.1 y0.1) fun y1 =>
 (Option.bind (F26 a0.2.2.1 y1.1) fun y2 =>
 (some (y2.1, ())))))
noncomputable def C10 : Fun := ⟨[(.tk Y25 (.pr (.own (.pr .z (.pr (.own (.pr .z (.pr (.own .z) .z))) (.pr (.own (.pr .z (.pr (.own .z) .z))) .z)))) (.pr (.own (.pr .z (.pr .z (.pr (.own (.pr .z (.pr (.pr (.own (.pr (.own .z) .z)) .z) .z))) (.pr (.own .z) .z))))) (.pr (.own (.pr .z (.pr .z (.pr (.own (.pr .z (.pr (.pr (.own (.pr (.own .z) .z)) .z) .z))) (.pr (.own .z) .z))))) .z)))), (.ro (.int .i64))], [((.int .i64), .z)], fun z => F10 z.1 z.2.1⟩
noncomputable def E10 : Env := ⟨18, tyTab tys, oneTab ones, fnTab [(24, C24), (25, C25), (26, C26)], false, [], [(99999, [4], [])], none, []⟩
noncomputable def L10 : List (LoopS (Int × Unit)) := []
theorem C10_ok : IoOk Tryz.prog 10 C10 := tK E10 L10 [] Tryz.func10 ty_ok (.consIo C24_ok (.consIo C25_ok (.consIo C26_ok .nil))) .nil
noncomputable def F11_R2 (e0_0 : Int × List (Int) × Unit → Option (Int × List (Int) × Unit)) (rec : Int × Int × List (Int) × Unit → Option (Int × List (Int) × Unit)) (x2 : Int × Int × List (Int) × Unit) : Option (Int × List (Int) × Unit) :=
 (cond (decide (x2.2.1 < (((List.length x2.2.2.1) : Nat) : Int)))
 (gd (decide ((0 : Int) ≤ x2.2.1))
 (gd (decide (x2.2.1 < (((List.length x2.2.2.1) : Nat) : Int)))
 (Option.bind x2.2.2.1[(Int.toNat x2.2.1)]? fun y4 =>
 (rec ((IntKind.wrap IntKind.i64 (x2.1 + (1 : Int))), (IntKind.wrap IntKind.i64 (x2.2.1 + (1 : Int))), (List.set x2.2.2.1 (Int.toNat x2.2.1) x2.1), ())))))
 (e0_0 (x2.1, x2.2.2.1, ())))
noncomputable def F11 (a0 : List (Int)) (a1 : Int) : Option (Int × List (Int) × Unit) :=
 (iter (F11_R2
 (fun y5 =>
 (some (y5.1, (y5.2.1, ()))))) fuel (a1, (0 : Int), a0, ()))
noncomputable def C11 : Fun := ⟨[(.io (.slice (.int .i64)) (.own .z)), (.ro (.int .i64))], [((.int .i64), .z)], fun z => F11 z.1 z.2.1⟩
noncomputable def E11 : Env := ⟨19, tyTab tys, oneTab ones, fnTab [], false, [], [(2, [0, 1, 5], [4]), (4, [0, 1, 5], [4]), (6, [1], [4]), (100000, [1], [4]), (100001, [0, 1, 5], [4]), (99999, [4], [4])], none, []⟩
noncomputable def L11 : List (LoopS (Int × List (Int) × Unit)) := [⟨2, ⟨[(0, (.ref (.slice (.int .i64)) 4 [])), (1, (.pv (.int .i64))), (5, (.pv (.int .i64)))], [(4, (.data false (.slice (.int .i64)) (.own .z)))]⟩, fun κ => F11_R2 (fun y => κ.exit 0 (SSh.mk' ⟨[(1, (.pv (.int .i64)))], [(4, (.data false (.slice (.int .i64)) (.own .z)))]⟩ y))⟩]
theorem L11_2 : ∀ p : Option Src, RoundEq { E11 with pin := p } L11 L11[0] (nthLoop (codeOf Tryz.f11) 0) := fun p κ N x => by kernel_rfl
theorem C11_ok : IoOk Tryz.prog 11 C11 := tO E11 L11 [nthLoop (codeOf Tryz.f11) 0] Tryz.func11 ty_ok .nil (fun p => (.cons L11[0] (by kernel_rfl) (L11_2 p) .nil))
noncomputable def F12_R2 (e0_0 : Int × Unit → Option (Int × Unit)) (er_1 : Int × Unit → Option (Int × Unit)) (rec : List (Int) × Int × Int × Unit → Option (Int × Unit)) (x2 : List (Int) × Int × Int × Unit) : Option (Int × Unit) :=
 (cond (decide (x2.2.2.1 < (((List.length x2.1) : Nat) : Int)))
 (gd (decide ((0 : Int) ≤ x2.2.2.1))
 (Option.bind x2.1[(Int.toNat x2.2.2.1)]? fun y6 =>
 (cond (y6 != x2.2.1)
 (er_1 ((-(1 : Int)), ()))
 (rec (x2.1, (IntKind.wrap IntKind.i64 (x2.2.1 + (1 : Int))), (IntKind.wrap IntKind.i64 (x2.2.2.1 + (1 : Int))), ())))))
 (e0_0 (x2.2.1, ())))
noncomputable def F12 (a0 : List (Int)) (a1 : Int) : Option (Int × Unit) :=
 (iter (F12_R2
 (fun y7 =>
 (some (y7.1, ())))
 (fun y8 =>
 (some (y8.1, ())))) fuel (a0, a1, (0 : Int), ()))
noncomputable def C12 : Fun := ⟨[(.ro (.slice (.int .i64))), (.ro (.int .i64))], [((.int .i64), .z)], fun z => F12 z.1 z.2.1⟩
noncomputable def E12 : Env := ⟨21, tyTab tys, oneTab ones, fnTab [], false, [], [(2, [0, 1, 5], []), (3, [0, 1, 5], []), (4, [0, 1, 5], []), (6, [0, 1, 5], []), (7, [1], []), (100000, [1], []), (100001, [0, 1, 5], []), (99999, [4], [])], none, []⟩
noncomputable def L12 : List (LoopS (Int × Unit)) := [⟨2, ⟨[(0, (.pv (.slice (.int .i64)))), (1, (.pv (.int .i64))), (5, (.pv (.int .i64)))], []⟩, fun κ => F12_R2 (fun y => κ.exit 0 (SSh.mk' ⟨[(1, (.pv (.int .i64)))], []⟩ y)) (fun y => κ.ret (SSh.mk' ⟨[(4, (.pv (.int .i64)))], []⟩ y))⟩]
theorem L12_2 : RoundEq E12 L12 L12[0] (nthLoop (codeOf Tryz.f12) 0) := fun κ N x => by kernel_rfl
theorem C12_ok : QuietOk Tryz.prog 12 C12 := tQ E12 L12 [nthLoop (codeOf Tryz.f12) 0] Tryz.func12 ty_ok .nil (.cons L12[0] (by kernel_rfl) L12_2 .nil)
noncomputable def F3 (a0 : D25) : Option (Bool × Unit) :=
 (Option.bind (F4 a0 (1048576 : Int)) fun y0 =>
 (cond (decide (y0.1 < (0 : Int)))
 (some (true, ()))
 (Option.bind (F6 a0) fun y2 =>
 (Option.bind (F5 y2.1) fun y3 =>
 (Option.bind (F6 a0) fun y4 =>
 (Option.bind (F7 y4.1) fun y5 =>
 (Option.bind (F8 y5.1 y3.1) fun y7 =>
 (cond (!y7.1)
 (some (false, ()))
 (cond (y5.2.1 != y3.2.1)
 (some (false, ()))
 (Option.bind (F6 a0) fun y9 =>
 (Option.bind (F9 y4.1 y9.1) fun y10 =>
 (cond (!y10.1)
 (some (false, ()))
 (Option.bind (F10 y4.1 (1 : Int)) fun y11 =>
 (cond (decide (y11.1 < (0 : Int)))
 (some (false, ()))
 (Option.bind (F8 y5.1 y3.1) fun y13 =>
 (cond (!y13.1)
 (some (false, ()))
 (cond (y5.2.1 != y3.2.1)
 (some (false, ()))
 (Option.bind (F11 y5.1 (1 : Int)) fun y14 =>
 (Option.bind (F12 y14.2.1 (1 : Int)) fun y15 =>
 (cond (decide (y15.1 < (0 : Int)))
 (some (false, ()))
 (cond (y15.1 != y14.1)
 (some (false, ()))
 (Option.bind (F6 a0) fun y18 =>
 (Option.bind (F7 y18.1) fun y19 =>
 (Option.bind (F8 y19.1 y3.1) fun y21 =>
 (cond (!y21.1)
 (some (false, ()))
 (cond (y19.2.1 != y3.2.1)
 (some (false, ()))
 (Option.bind (F12 y14.2.1 (1 : Int)) fun y22 =>
 (cond (decide (y22.1 < (0 : Int)))
 (some (false, ()))
 (cond (y22.1 != y14.1)
 (some (false, ()))
 (some (true, ())))))))))))))))))))))))))))))))
noncomputable def C3 : Fun := ⟨[(.ro Y25)], [(.bool, .z)], fun z => F3 z.1⟩
noncomputable def E3 : Env := ⟨96, tyTab tys, oneTab ones, fnTab [(4, C4), (5, C5), (6, C6), (7, C7), (8, C8), (9, C9), (10, C10), (11, C11), (12, C12)], false, [], [(5, [1], []), (10, [1, 4, 5, 6, 7, 8], []), (12, [1, 4, 5, 6, 7, 8], []), (16, [1, 4, 5, 7], []), (22, [1, 4, 5, 7, 10, 11], []), (24, [1, 4, 5, 7, 10], []), (27, [7, 10], []), (31, [10, 11], []), (33, [], []), (99999, [2], [])], none, []⟩
noncomputable def L3 : List (LoopS (Bool × Unit)) := []
theorem C3_ok : QuietOk Tryz.prog 3 C3 := tQ E3 L3 [] Tryz.func3 ty_ok (.cons C4_ok (.consFr C5_ok (.consFr C6_ok (.consFr C7_ok (.cons C8_ok (.cons C9_ok (.consIo C10_ok (.consIo C11_ok (.cons C12_ok .nil))))))))) .nil
end Go.V
