/- What functions of the program compute, printed by a program of ours. No condition. -/
import Derived.Test.YtmdhdagmebffjaaGreatDoorWF4
namespace Go.V
open Go.Proofs
set_option maxRecDepth 100000
set_option linter.unusedVariables false
noncomputable def F145 (a0 : D109) (a1 : D109) : Option (Bool × Unit) :=
 (Option.bind (F169 a0.1 a1.1) fun y1 =>
 (cond (!y1.1)
 (some (false, ()))
 (some (true, ()))))
noncomputable def C145 : Fun := ⟨[(.ro Y109), (.ro Y109)], [(.bool, .z)], fun z => F145 z.1 z.2.1⟩
noncomputable def E145 : Env := ⟨11, tyTab tys, oneTab ones, fnTab [(169, C169)], false, [], [(3, [], []), (99999, [4], [])], none, [], []⟩
noncomputable def L145 : List (LoopS (Bool × Unit)) := []
theorem C145_ok : QuietOk Tryz.prog 145 C145 := tQ E145 L145 [] Tryz.func145 ty_ok (.cons C169_ok .nil) .nil
noncomputable def F110 (a0 : D111) (a1 : D111) : Option (Bool × Unit) :=
 (cond (!(a0.1 == a1.1))
 (some (false, ()))
 (Option.bind (F145 a0.2.1 a1.2.1) fun y2 =>
 (cond (!y2.1)
 (some (false, ()))
 (some (true, ())))))
noncomputable def C110 : Fun := ⟨[(.ro Y111), (.ro Y111)], [(.bool, .z)], fun z => F110 z.1 z.2.1⟩
noncomputable def E110 : Env := ⟨16, tyTab tys, oneTab ones, fnTab [(145, C145)], false, [], [(3, [2, 3], []), (5, [], []), (99999, [4], [])], none, [], []⟩
noncomputable def L110 : List (LoopS (Bool × Unit)) := []
theorem C110_ok : QuietOk Tryz.prog 110 C110 := tQ E110 L110 [] Tryz.func110 ty_ok (.cons C145_ok .nil) .nil
noncomputable def F73_R4 (e0_0 : Unit → Option (Bool × Unit)) (er_1 : Bool × Unit → Option (Bool × Unit)) (rec : List (D111) × List (D111) × Int × Unit → Option (Bool × Unit)) (x3 : List (D111) × List (D111) × Int × Unit) : Option (Bool × Unit) :=
 (cond (decide (x3.2.2.1 < (((List.length x3.1) : Nat) : Int)))
 (gd (decide ((0 : Int) ≤ x3.2.2.1))
 (Option.bind x3.1[(Int.toNat x3.2.2.1)]? fun y6 =>
 (gd (decide ((0 : Int) ≤ x3.2.2.1))
 (Option.bind x3.2.1[(Int.toNat x3.2.2.1)]? fun y7 =>
 (Option.bind (F110 y6 y7) fun y8 =>
 (cond (!y8.1)
 (er_1 (false, ()))
 (rec (x3.1, x3.2.1, (IntKind.wrap IntKind.i64 (x3.2.2.1 + (1 : Int))), ()))))))))
 (e0_0 (())))
noncomputable def F73 (a0 : List (D111)) (a1 : List (D111)) : Option (Bool × Unit) :=
 (cond ((((List.length a0) : Nat) : Int) != (((List.length a1) : Nat) : Int))
 (some (false, ()))
 (iter (F73_R4
 (fun y9 =>
 (some (true, ())))
 (fun y10 =>
 (some (y10.1, ())))) fuel (a0, a1, (0 : Int), ())))
noncomputable def C73 : Fun := ⟨[(.ro (.slice Y111)), (.ro (.slice Y111))], [(.bool, .z)], fun z => F73 z.1 z.2.1⟩
noncomputable def E73 : Env := ⟨27, tyTab tys, oneTab ones, fnTab [(110, C110)], false, [], [(3, [0, 1], []), (4, [0, 1, 5], []), (5, [0, 1, 5], []), (6, [0, 1, 5], []), (8, [], []), (100000, [], []), (100001, [0, 1, 5], []), (99999, [4], [])], none, [], []⟩
noncomputable def L73 : List (LoopS (Bool × Unit)) := [⟨4, ⟨[(0, (.pv (.slice Y111))), (1, (.pv (.slice Y111))), (5, (.pv (.int .i64)))], []⟩, fun κ => F73_R4 (fun y => κ.exit 0 (SSh.mk' ⟨[], []⟩ y)) (fun y => κ.ret (SSh.mk' ⟨[(4, (.pv .bool))], []⟩ y))⟩]
theorem L73_4 : RoundEq E73 L73 L73[0] (nthLoop (codeOf Tryz.f73) 0) := fun κ N x => by kernel_rfl
theorem C73_ok : QuietOk Tryz.prog 73 C73 := tQ E73 L73 [nthLoop (codeOf Tryz.f73) 0] Tryz.func73 ty_ok (.cons C110_ok .nil) (.cons L73[0] (by kernel_rfl) L73_4 .nil)
noncomputable def F111 (a0 : D82) (a1 : D82) : Option (Bool × Unit) :=
 (cond (!(a0.1 == a1.1))
 (some (false, ()))
 (cond (a0.2.1 != a1.2.1)
 (some (false, ()))
 (cond (!(a0.2.2.1 == a1.2.2.1))
 (some (false, ()))
 (Option.bind (F146 a0.2.2.2.1 a1.2.2.2.1) fun y4 =>
 (cond (!y4.1)
 (some (false, ()))
 (some (true, ())))))))
noncomputable def C111 : Fun := ⟨[(.ro Y82), (.ro Y82)], [(.bool, .z)], fun z => F111 z.1 z.2.1⟩
noncomputable def E111 : Env := ⟨26, tyTab tys, oneTab ones, fnTab [(146, C146)], false, [], [(3, [2, 3], []), (5, [2, 3], []), (7, [2, 3], []), (9, [], []), (99999, [4], [])], none, [], []⟩
noncomputable def L111 : List (LoopS (Bool × Unit)) := []
theorem C111_ok : QuietOk Tryz.prog 111 C111 := tQ E111 L111 [] Tryz.func111 ty_ok (.cons C146_ok .nil) .nil
noncomputable def F74_R4 (e0_0 : Unit → Option (Bool × Unit)) (er_1 : Bool × Unit → Option (Bool × Unit)) (rec : List (D82) × List (D82) × Int × Unit → Option (Bool × Unit)) (x3 : List (D82) × List (D82) × Int × Unit) : Option (Bool × Unit) :=
 (cond (decide (x3.2.2.1 < (((List.length x3.1) : Nat) : Int)))
 (gd (decide ((0 : Int) ≤ x3.2.2.1))
 (Option.bind x3.1[(Int.toNat x3.2.2.1)]? fun y6 =>
 (gd (decide ((0 : Int) ≤ x3.2.2.1))
 (Option.bind x3.2.1[(Int.toNat x3.2.2.1)]? fun y7 =>
 (Option.bind (F111 y6 y7) fun y8 =>
 (cond (!y8.1)
 (er_1 (false, ()))
 (rec (x3.1, x3.2.1, (IntKind.wrap IntKind.i64 (x3.2.2.1 + (1 : Int))), ()))))))))
 (e0_0 (())))
noncomputable def F74 (a0 : List (D82)) (a1 : List (D82)) : Option (Bool × Unit) :=
 (cond ((((List.length a0) : Nat) : Int) != (((List.length a1) : Nat) : Int))
 (some (false, ()))
 (iter (F74_R4
 (fun y9 =>
 (some (true, ())))
 (fun y10 =>
 (some (y10.1, ())))) fuel (a0, a1, (0 : Int), ())))
noncomputable def C74 : Fun := ⟨[(.ro (.slice Y82)), (.ro (.slice Y82))], [(.bool, .z)], fun z => F74 z.1 z.2.1⟩
noncomputable def E74 : Env := ⟨27, tyTab tys, oneTab ones, fnTab [(111, C111)], false, [], [(3, [0, 1], []), (4, [0, 1, 5], []), (5, [0, 1, 5], []), (6, [0, 1, 5], []), (8, [], []), (100000, [], []), (100001, [0, 1, 5], []), (99999, [4], [])], none, [], []⟩
noncomputable def L74 : List (LoopS (Bool × Unit)) := [⟨4, ⟨[(0, (.pv (.slice Y82))), (1, (.pv (.slice Y82))), (5, (.pv (.int .i64)))], []⟩, fun κ => F74_R4 (fun y => κ.exit 0 (SSh.mk' ⟨[], []⟩ y)) (fun y => κ.ret (SSh.mk' ⟨[(4, (.pv .bool))], []⟩ y))⟩]
theorem L74_4 : RoundEq E74 L74 L74[0] (nthLoop (codeOf Tryz.f74) 0) := fun κ N x => by kernel_rfl
theorem C74_ok : QuietOk Tryz.prog 74 C74 := tQ E74 L74 [nthLoop (codeOf Tryz.f74) 0] Tryz.func74 ty_ok (.cons C111_ok .nil) (.cons L74[0] (by kernel_rfl) L74_4 .nil)
noncomputable def F45 (a0 : D56) (a1 : D56) : Option (Bool × Unit) :=
 (cond (a0.1 != a1.1)
 (some (false, ()))
 (cond (a0.2.1 != a1.2.1)
 (some (false, ()))
 (Option.bind (F73 a0.2.2.1 a1.2.2.1) fun y3 =>
 (cond (!y3.1)
 (some (false, ()))
 (Option.bind (F74 a0.2.2.2.1 a1.2.2.2.1) fun y5 =>
 (cond (!y5.1)
 (some (false, ()))
 (some (true, ()))))))))
noncomputable def C45 : Fun := ⟨[(.ro Y56), (.ro Y56)], [(.bool, .z)], fun z => F45 z.1 z.2.1⟩
noncomputable def E45 : Env := ⟨27, tyTab tys, oneTab ones, fnTab [(73, C73), (74, C74)], false, [], [(3, [2, 3], []), (5, [2, 3], []), (7, [2, 3], []), (9, [], []), (99999, [4], [])], none, [], []⟩
noncomputable def L45 : List (LoopS (Bool × Unit)) := []
theorem C45_ok : QuietOk Tryz.prog 45 C45 := tQ E45 L45 [] Tryz.func45 ty_ok (.cons C73_ok (.cons C74_ok .nil)) .nil
noncomputable def F20_R4 (e0_0 : Unit → Option (Bool × Unit)) (er_1 : Bool × Unit → Option (Bool × Unit)) (rec : List (D56) × List (D56) × Int × Unit → Option (Bool × Unit)) (x3 : List (D56) × List (D56) × Int × Unit) : Option (Bool × Unit) :=
 (cond (decide (x3.2.2.1 < (((List.length x3.1) : Nat) : Int)))
 (gd (decide ((0 : Int) ≤ x3.2.2.1))
 (Option.bind x3.1[(Int.toNat x3.2.2.1)]? fun y6 =>
 (gd (decide ((0 : Int) ≤ x3.2.2.1))
 (Option.bind x3.2.1[(Int.toNat x3.2.2.1)]? fun y7 =>
 (Option.bind (F45 y6 y7) fun y8 =>
 (cond (!y8.1)
 (er_1 (false, ()))
 (rec (x3.1, x3.2.1, (IntKind.wrap IntKind.i64 (x3.2.2.1 + (1 : Int))), ()))))))))
 (e0_0 (())))
noncomputable def F20 (a0 : List (D56)) (a1 : List (D56)) : Option (Bool × Unit) :=
 (cond ((((List.length a0) : Nat) : Int) != (((List.length a1) : Nat) : Int))
 (some (false, ()))
 (iter (F20_R4
 (fun y9 =>
 (some (true, ())))
 (fun y10 =>
 (some (y10.1, ())))) fuel (a0, a1, (0 : Int), ())))
noncomputable def C20 : Fun := ⟨[(.ro (.slice Y56)), (.ro (.slice Y56))], [(.bool, .z)], fun z => F20 z.1 z.2.1⟩
noncomputable def E20 : Env := ⟨27, tyTab tys, oneTab ones, fnTab [(45, C45)], false, [], [(3, [0, 1], []), (4, [0, 1, 5], []), (5, [0, 1, 5], []), (6, [0, 1, 5], []), (8, [], []), (100000, [], []), (100001, [0, 1, 5], []), (99999, [4], [])], none, [], []⟩
noncomputable def L20 : List (LoopS (Bool × Unit)) := [⟨4, ⟨[(0, (.pv (.slice Y56))), (1, (.pv (.slice Y56))), (5, (.pv (.int .i64)))], []⟩, fun κ => F20_R4 (fun y => κ.exit 0 (SSh.mk' ⟨[], []⟩ y)) (fun y => κ.ret (SSh.mk' ⟨[(4, (.pv .bool))], []⟩ y))⟩]
theorem L20_4 : RoundEq E20 L20 L20[0] (nthLoop (codeOf Tryz.f20) 0) := fun κ N x => by kernel_rfl
theorem C20_ok : QuietOk Tryz.prog 20 C20 := tQ E20 L20 [nthLoop (codeOf Tryz.f20) 0] Tryz.func20 ty_ok (.cons C45_ok .nil) (.cons L20[0] (by kernel_rfl) L20_4 .nil)
noncomputable def F112 (a0 : D150) (a1 : D150) : Option (Bool × Unit) :=
 (Option.bind (F111 a0.1 a1.1) fun y1 =>
 (cond (!y1.1)
 (some (false, ()))
 (Option.bind (F146 a0.2.1 a1.2.1) fun y3 =>
 (cond (!y3.1)
 (some (false, ()))
 (cond (!(a0.2.2.1 == a1.2.2.1))
 (some (false, ()))
 (some (true, ())))))))
noncomputable def C112 : Fun := ⟨[(.ro Y150), (.ro Y150)], [(.bool, .z)], fun z => F112 z.1 z.2.1⟩
noncomputable def E112 : Env := ⟨22, tyTab tys, oneTab ones, fnTab [(111, C111), (146, C146)], false, [], [(3, [2, 3], []), (5, [2, 3], []), (7, [], []), (99999, [4], [])], none, [], []⟩
noncomputable def L112 : List (LoopS (Bool × Unit)) := []
theorem C112_ok : QuietOk Tryz.prog 112 C112 := tQ E112 L112 [] Tryz.func112 ty_ok (.cons C111_ok (.cons C146_ok .nil)) .nil
noncomputable def F75_R4 (e0_0 : Unit → Option (Bool × Unit)) (er_1 : Bool × Unit → Option (Bool × Unit)) (rec : List (D150) × List (D150) × Int × Unit → Option (Bool × Unit)) (x3 : List (D150) × List (D150) × Int × Unit) : Option (Bool × Unit) :=
 (cond (decide (x3.2.2.1 < (((List.length x3.1) : Nat) : Int)))
 (gd (decide ((0 : Int) ≤ x3.2.2.1))
 (Option.bind x3.1[(Int.toNat x3.2.2.1)]? fun y6 =>
 (gd (decide ((0 : Int) ≤ x3.2.2.1))
 (Option.bind x3.2.1[(Int.toNat x3.2.2.1)]? fun y7 =>
 (Option.bind (F112 y6 y7) fun y8 =>
 (cond (!y8.1)
 (er_1 (false, ()))
 (rec (x3.1, x3.2.1, (IntKind.wrap IntKind.i64 (x3.2.2.1 + (1 : Int))), ()))))))))
 (e0_0 (())))
noncomputable def F75 (a0 : List (D150)) (a1 : List (D150)) : Option (Bool × Unit) :=
 (cond ((((List.length a0) : Nat) : Int) != (((List.length a1) : Nat) : Int))
 (some (false, ()))
 (iter (F75_R4
 (fun y9 =>
 (some (true, ())))
 (fun y10 =>
 (some (y10.1, ())))) fuel (a0, a1, (0 : Int), ())))
noncomputable def C75 : Fun := ⟨[(.ro (.slice Y150)), (.ro (.slice Y150))], [(.bool, .z)], fun z => F75 z.1 z.2.1⟩
noncomputable def E75 : Env := ⟨27, tyTab tys, oneTab ones, fnTab [(112, C112)], false, [], [(3, [0, 1], []), (4, [0, 1, 5], []), (5, [0, 1, 5], []), (6, [0, 1, 5], []), (8, [], []), (100000, [], []), (100001, [0, 1, 5], []), (99999, [4], [])], none, [], []⟩
noncomputable def L75 : List (LoopS (Bool × Unit)) := [⟨4, ⟨[(0, (.pv (.slice Y150))), (1, (.pv (.slice Y150))), (5, (.pv (.int .i64)))], []⟩, fun κ => F75_R4 (fun y => κ.exit 0 (SSh.mk' ⟨[], []⟩ y)) (fun y => κ.ret (SSh.mk' ⟨[(4, (.pv .bool))], []⟩ y))⟩]
theorem L75_4 : RoundEq E75 L75 L75[0] (nthLoop (codeOf Tryz.f75) 0) := fun κ N x => by kernel_rfl
theorem C75_ok : QuietOk Tryz.prog 75 C75 := tQ E75 L75 [nthLoop (codeOf Tryz.f75) 0] Tryz.func75 ty_ok (.cons C112_ok .nil) (.cons L75[0] (by kernel_rfl) L75_4 .nil)
noncomputable def F46 (a0 : D60) (a1 : D60) : Option (Bool × Unit) :=
 (cond (a0.1 != a1.1)
 (some (false, ()))
 (cond (a0.2.1 != a1.2.1)
 (some (false, ()))
 (Option.bind (F73 a0.2.2.1 a1.2.2.1) fun y3 =>
 (cond (!y3.1)
 (some (false, ()))
 (Option.bind (F75 a0.2.2.2.1 a1.2.2.2.1) fun y5 =>
 (cond (!y5.1)
 (some (false, ()))
 (cond (!(a0.2.2.2.2.1 == a1.2.2.2.2.1))
 (some (false, ()))
 (cond (!(a0.2.2.2.2.2.1 == a1.2.2.2.2.2.1))
 (some (false, ()))
 (some (true, ()))))))))))
noncomputable def C46 : Fun := ⟨[(.ro Y60), (.ro Y60)], [(.bool, .z)], fun z => F46 z.1 z.2.1⟩
noncomputable def E46 : Env := ⟨37, tyTab tys, oneTab ones, fnTab [(73, C73), (75, C75)], false, [], [(3, [2, 3], []), (5, [2, 3], []), (7, [2, 3], []), (9, [2, 3], []), (11, [2, 3], []), (13, [], []), (99999, [4], [])], none, [], []⟩
noncomputable def L46 : List (LoopS (Bool × Unit)) := []
theorem C46_ok : QuietOk Tryz.prog 46 C46 := tQ E46 L46 [] Tryz.func46 ty_ok (.cons C73_ok (.cons C75_ok .nil)) .nil
noncomputable def F21_R4 (e0_0 : Unit → Option (Bool × Unit)) (er_1 : Bool × Unit → Option (Bool × Unit)) (rec : List (D60) × List (D60) × Int × Unit → Option (Bool × Unit)) (x3 : List (D60) × List (D60) × Int × Unit) : Option (Bool × Unit) :=
 (cond (decide (x3.2.2.1 < (((List.length x3.1) : Nat) : Int)))
 (gd (decide ((0 : Int) ≤ x3.2.2.1))
 (Option.bind x3.1[(Int.toNat x3.2.2.1)]? fun y6 =>
 (gd (decide ((0 : Int) ≤ x3.2.2.1))
 (Option.bind x3.2.1[(Int.toNat x3.2.2.1)]? fun y7 =>
 (Option.bind (F46 y6 y7) fun y8 =>
 (cond (!y8.1)
 (er_1 (false, ()))
 (rec (x3.1, x3.2.1, (IntKind.wrap IntKind.i64 (x3.2.2.1 + (1 : Int))), ()))))))))
 (e0_0 (())))
noncomputable def F21 (a0 : List (D60)) (a1 : List (D60)) : Option (Bool × Unit) :=
 (cond ((((List.length a0) : Nat) : Int) != (((List.length a1) : Nat) : Int))
 (some (false, ()))
 (iter (F21_R4
 (fun y9 =>
 (some (true, ())))
 (fun y10 =>
 (some (y10.1, ())))) fuel (a0, a1, (0 : Int), ())))
noncomputable def C21 : Fun := ⟨[(.ro (.slice Y60)), (.ro (.slice Y60))], [(.bool, .z)], fun z => F21 z.1 z.2.1⟩
noncomputable def E21 : Env := ⟨27, tyTab tys, oneTab ones, fnTab [(46, C46)], false, [], [(3, [0, 1], []), (4, [0, 1, 5], []), (5, [0, 1, 5], []), (6, [0, 1, 5], []), (8, [], []), (100000, [], []), (100001, [0, 1, 5], []), (99999, [4], [])], none, [], []⟩
noncomputable def L21 : List (LoopS (Bool × Unit)) := [⟨4, ⟨[(0, (.pv (.slice Y60))), (1, (.pv (.slice Y60))), (5, (.pv (.int .i64)))], []⟩, fun κ => F21_R4 (fun y => κ.exit 0 (SSh.mk' ⟨[], []⟩ y)) (fun y => κ.ret (SSh.mk' ⟨[(4, (.pv .bool))], []⟩ y))⟩]
theorem L21_4 : RoundEq E21 L21 L21[0] (nthLoop (codeOf Tryz.f21) 0) := fun κ N x => by kernel_rfl
theorem C21_ok : QuietOk Tryz.prog 21 C21 := tQ E21 L21 [nthLoop (codeOf Tryz.f21) 0] Tryz.func21 ty_ok (.cons C46_ok .nil) (.cons L21[0] (by kernel_rfl) L21_4 .nil)
noncomputable def F8 (a0 : D25) (a1 : D25) : Option (Bool × Unit) :=
 (Option.bind (F19 a0.1 a1.1) fun y1 =>
 (cond (!y1.1)
 (some (false, ()))
 (Option.bind (F20 a0.2.1 a1.2.1) fun y3 =>
 (cond (!y3.1)
 (some (false, ()))
 (Option.bind (F21 a0.2.2.1 a1.2.2.1) fun y5 =>
 (cond (!y5.1)
 (some (false, ()))
 (cond (a0.2.2.2.1 != a1.2.2.2.1)
 (some (false, ()))
 (some (true, ())))))))))
noncomputable def C8 : Fun := ⟨[(.ro Y25), (.ro Y25)], [(.bool, .z)], fun z => F8 z.1 z.2.1⟩
noncomputable def E8 : Env := ⟨28, tyTab tys, oneTab ones, fnTab [(19, C19), (20, C20), (21, C21)], false, [], [(3, [2, 3], []), (5, [2, 3], []), (7, [2, 3], []), (9, [], []), (99999, [4], [])], none, [], []⟩
noncomputable def L8 : List (LoopS (Bool × Unit)) := []
theorem C8_ok : QuietOk Tryz.prog 8 C8 := tQ E8 L8 [] Tryz.func8 ty_ok (.cons C19_ok (.cons C20_ok (.cons C21_ok .nil))) .nil
noncomputable def F3 (a0 : D25) (a1 : D25) : Option (Bool × Unit) :=
 (Option.bind (F4 a0 (1048576 : Int)) fun y0 =>
 (cond (decide (y0.1 < (0 : Int)))
 (some (true, ()))
 (Option.bind (F4 a1 y0.1) fun y2 =>
 (cond (decide (y2.1 < (0 : Int)))
 (some (true, ()))
 (Option.bind (F6 a0) fun y4 =>
 (Option.bind (F6 a1) fun y5 =>
 (Option.bind (F5 y4.1 y5.1) fun y6 =>
 (Option.bind (F6 a0) fun y7 =>
 (Option.bind (F6 a1) fun y8 =>
 (Option.bind (F7 y7.1 y8.1) fun y9 =>
 (cond (!(y9.1 == y6.1))
 (some (false, ()))
 (cond (y9.2.1 != y6.2.1)
 (some (false, ()))
 (Option.bind (F6 a0) fun y12 =>
 (Option.bind (F8 y7.1 y12.1) fun y13 =>
 (cond (!y13.1)
 (some (false, ()))
 (Option.bind (F6 a1) fun y15 =>
 (Option.bind (F8 y8.1 y15.1) fun y16 =>
 (cond (!y16.1)
 (some (false, ()))
 (some (true, ()))))))))))))))))))))
noncomputable def C3 : Fun := ⟨[(.ro Y25), (.ro Y25)], [(.bool, .z)], fun z => F3 z.1 z.2.1⟩
noncomputable def E3 : Env := ⟨58, tyTab tys, oneTab ones, fnTab [(4, C4), (5, C5), (6, C6), (7, C7), (8, C8)], false, [], [(5, [2, 3, 5], []), (8, [2, 3], []), (14, [2, 3, 8, 9], []), (16, [3, 9], []), (18, [], []), (99999, [4], [])], none, [], []⟩
noncomputable def L3 : List (LoopS (Bool × Unit)) := []
theorem C3_ok : QuietOk Tryz.prog 3 C3 := tQ E3 L3 [] Tryz.func3 ty_ok (.cons C4_ok (.cons C5_ok (.cons C6_ok (.cons C7_ok (.cons C8_ok .nil))))) .nil
end Go.V
