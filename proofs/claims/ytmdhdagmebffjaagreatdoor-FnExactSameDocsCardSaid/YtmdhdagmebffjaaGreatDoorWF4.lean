/- What functions of the program compute, printed by a program of ours. No condition. -/
import Derived.Test.YtmdhdagmebffjaaGreatDoorWF3
namespace Go.V
open Go.Proofs
set_option maxRecDepth 100000
set_option linter.unusedVariables false
noncomputable def F100 (a0 : List (D150)) : Option (Bool × Unit) :=
 (Option.bind (F95 a0 (fun (v2 : D150) => (Option.map (fun (v3 : (Bool × Unit)) => v3.1) (F138 v2)))) fun y0 =>
 (some ((!y0.1), ())))
noncomputable def C100 : Fun := ⟨[(.ro (.slice Y150))], [(.bool, .z)], fun z => F100 z.1⟩
noncomputable def E100 : Env := ⟨6, tyTab tys, oneTab ones, fnTab [(95, C95), (138, C138)], false, [], [(99999, [2], [])], none, [], []⟩
noncomputable def L100 : List (LoopS (Bool × Unit)) := []
theorem C100_ok : QuietOk Tryz.prog 100 C100 := tQ E100 L100 [] Tryz.func100 ty_ok (.cons C95_ok (.cons C138_ok .nil)) .nil
noncomputable def F64_R2 (e0_0 : D60 × Unit → Option (Bool × Unit)) (er_1 : Bool × Unit → Option (Bool × Unit)) (rec : List (D150) × Int × Int × D60 × Unit → Option (Bool × Unit)) (x2 : List (D150) × Int × Int × D60 × Unit) : Option (Bool × Unit) :=
 (cond (decide (x2.2.2.1 < x2.2.1))
 (gd (decide ((0 : Int) ≤ x2.2.2.1))
 (Option.bind x2.1[(Int.toNat x2.2.2.1)]? fun y5 =>
 (gd (decide ((0 : Int) ≤ x2.2.2.1))
 (gd (decide (x2.2.2.1 ≤ (((List.length x2.2.2.2.1.2.2.2.1) : Nat) : Int)))
 (Option.bind (F95 (List.drop (Int.toNat (0 : Int)) (List.take (Int.toNat x2.2.2.1) x2.2.2.2.1.2.2.2.1)) (fun (v9 : D150) => (Option.map (fun (v10 : (Bool × Unit)) => v10.1) (F96 v9 y5)))) fun y6 =>
 (cond y6.1
 (er_1 (false, ()))
 (rec (x2.1, x2.2.1, (IntKind.wrap IntKind.i64 (x2.2.2.1 + (1 : Int))), x2.2.2.2.1, ()))))))))
 (e0_0 (x2.2.2.2.1, ())))
noncomputable def F64 (a0 : D60) : Option (Bool × Unit) :=
 (iter (F64_R2
 (fun y7 =>
 (cond (decide (y7.1.1 ≥ (0 : Int)))
 (Option.bind (F98 y7.1.2.1) fun y9 =>
 (cond y9.1
 (cond (decide (y7.1.2.1 > y7.1.1))
 (cond (decide ((((List.length y7.1.2.2.1) : Nat) : Int) ≤ (20 : Int)))
 (cond (decide ((((List.length y7.1.2.2.2.1) : Nat) : Int) ≤ (60 : Int)))
 (Option.bind (F99 y7.1.2.2.1) fun y10 =>
 (cond y10.1
 (Option.bind (F100 y7.1.2.2.2.1) fun y11 =>
 (some (y11.1, ())))
 (some (false, ()))))
 (some (false, ())))
 (some (false, ())))
 (some (false, ())))
 (some (false, ()))))
 (some (false, ()))))
 (fun y8 =>
 (some (y8.1, ())))) fuel (a0.2.2.2.1, (((List.length a0.2.2.2.1) : Nat) : Int), (0 : Int), a0, ()))
noncomputable def C64 : Fun := ⟨[(.ro Y60)], [(.bool, .z)], fun z => F64 z.1⟩
noncomputable def E64 : Env := ⟨57, tyTab tys, oneTab ones, fnTab [(95, C95), (96, C96), (98, C98), (99, C99), (100, C100)], false, [], [(2, [1, 6, 7, 8], []), (3, [1, 6, 7, 8], []), (6, [1, 6, 7, 8], []), (7, [1], []), (100000, [1], []), (100001, [1, 6, 7, 8], []), (99999, [2], [])], none, [], []⟩
noncomputable def L64 : List (LoopS (Bool × Unit)) := [⟨2, ⟨[(1, (.ptr 8 [])), (6, (.pv (.slice Y150))), (7, (.pv (.int .i64))), (8, (.pv (.int .i64)))], [(8, (.data true Y60 .z))]⟩, fun κ => F64_R2 (fun y => κ.exit 0 (SSh.mk' ⟨[(1, (.ptr 8 []))], [(8, (.data true Y60 .z))]⟩ y)) (fun y => κ.ret (SSh.mk' ⟨[(2, (.pv .bool))], []⟩ y))⟩]
theorem L64_2 : RoundEq E64 L64 L64[0] (nthLoop (codeOf Tryz.f64) 0) := fun κ N x => by kernel_rfl
theorem C64_ok : QuietOk Tryz.prog 64 C64 := tQ E64 L64 [nthLoop (codeOf Tryz.f64) 0] Tryz.func64 ty_ok (.cons C95_ok (.cons C96_ok (.cons C98_ok (.cons C99_ok (.cons C100_ok .nil))))) (.cons L64[0] (by kernel_rfl) L64_2 .nil)
noncomputable def F35_R2 (e0_0 : List (D60) × Unit → Option (Bool × Unit)) (er_1 : Bool × Unit → Option (Bool × Unit)) (rec : List (D60) × List (D60) × Int × Int × Unit → Option (Bool × Unit)) (x2 : List (D60) × List (D60) × Int × Int × Unit) : Option (Bool × Unit) :=
 (cond (decide (x2.2.2.2.1 < x2.2.2.1))
 (let j9 : List (D60) × List (D60) × Int × Int × Unit → Option (Bool × Unit) := fun (y10 : List (D60) × List (D60) × Int × Int × Unit) =>
 (rec (y10.1, y10.2.1, y10.2.2.1, (IntKind.wrap IntKind.i64 (y10.2.2.2.1 + (1 : Int))), ()))
 (gd (decide ((0 : Int) ≤ x2.2.2.2.1))
 (Option.bind x2.2.1[(Int.toNat x2.2.2.2.1)]? fun y5 =>
 (Option.bind (F64 y5) fun y6 =>
 (cond (!y6.1)
 (er_1 (false, ()))
 (cond y5.2.2.2.2.1
 (cond y5.2.2.2.2.2.1
 (er_1 (false, ()))
 (cond (decide (x2.2.2.2.1 > (0 : Int)))
 (gd (decide ((0 : Int) ≤ (IntKind.wrap IntKind.i64 (x2.2.2.2.1 - (1 : Int)))))
 (Option.bind x2.1[(Int.toNat (IntKind.wrap IntKind.i64 (x2.2.2.2.1 - (1 : Int))))]? fun y7 =>
 (cond (decide (y7.2.1 ≥ y5.2.1))
 (er_1 (false, ()))
 (j9 (x2.1, x2.2.1, x2.2.2.1, x2.2.2.2.1, ())))))
 (j9 (x2.1, x2.2.1, x2.2.2.1, x2.2.2.2.1, ()))))
 (cond (decide (x2.2.2.2.1 > (0 : Int)))
 (gd (decide ((0 : Int) ≤ (IntKind.wrap IntKind.i64 (x2.2.2.2.1 - (1 : Int)))))
 (Option.bind x2.1[(Int.toNat (IntKind.wrap IntKind.i64 (x2.2.2.2.1 - (1 : Int))))]? fun y8 =>
 (cond (decide (y8.2.1 ≥ y5.2.1))
 (er_1 (false, ()))
 (j9 (x2.1, x2.2.1, x2.2.2.1, x2.2.2.2.1, ())))))
 (j9 (x2.1, x2.2.1, x2.2.2.1, x2.2.2.2.1, ())))))))))
 (e0_0 (x2.1, ())))
noncomputable def F35 (a0 : List (D60)) : Option (Bool × Unit) :=
 (iter (F35_R2
 (fun y11 =>
 (some ((decide ((((List.length y11.1) : Nat) : Int) ≤ (30 : Int))), ())))
 (fun y12 =>
 (some (y12.1, ())))) fuel (a0, a0, (((List.length a0) : Nat) : Int), (0 : Int), ()))
noncomputable def C35 : Fun := ⟨[(.ro (.slice Y60))], [(.bool, .z)], fun z => F35 z.1⟩
noncomputable def E35 : Env := ⟨42, tyTab tys, oneTab ones, fnTab [(64, C64)], false, [], [(2, [0, 5, 6, 7], []), (3, [0, 5, 6, 7], []), (6, [0, 5, 6, 7], []), (7, [0], []), (100000, [0], []), (100001, [0, 5, 6, 7], []), (99999, [2], [])], none, [], []⟩
noncomputable def L35 : List (LoopS (Bool × Unit)) := [⟨2, ⟨[(0, (.pv (.slice Y60))), (5, (.pv (.slice Y60))), (6, (.pv (.int .i64))), (7, (.pv (.int .i64)))], []⟩, fun κ => F35_R2 (fun y => κ.exit 0 (SSh.mk' ⟨[(0, (.pv (.slice Y60)))], []⟩ y)) (fun y => κ.ret (SSh.mk' ⟨[(2, (.pv .bool))], []⟩ y))⟩]
theorem L35_2 : RoundEq E35 L35 L35[0] (nthLoop (codeOf Tryz.f35) 0) := fun κ N x => by kernel_rfl
theorem C35_ok : QuietOk Tryz.prog 35 C35 := tQ E35 L35 [nthLoop (codeOf Tryz.f35) 0] Tryz.func35 ty_ok (.cons C64_ok .nil) (.cons L35[0] (by kernel_rfl) L35_2 .nil)
noncomputable def F140_R3 (e0_0 : Int × Unit → Option (Int × Unit)) (er_1 : Int × Unit → Option (Int × Unit)) (rec : Int × List (Int) × Int × Int × Unit → Option (Int × Unit)) (x2 : Int × List (Int) × Int × Int × Unit) : Option (Int × Unit) :=
 (cond (decide (x2.2.2.2.1 < x2.2.2.1))
 (gd (decide ((0 : Int) ≤ x2.2.2.2.1))
 (Option.bind x2.2.1[(Int.toNat x2.2.2.2.1)]? fun y5 =>
 (cond (y5 != x2.1)
 (er_1 (y5, ()))
 (rec (x2.1, x2.2.1, x2.2.2.1, (IntKind.wrap IntKind.i64 (x2.2.2.2.1 + (1 : Int))), ())))))
 (e0_0 (x2.1, ())))
noncomputable def F140 (a0 : List (Int)) : Option (Int × Unit) :=
 (iter (F140_R3
 (fun y6 =>
 (some (y6.1, ())))
 (fun y7 =>
 (some (y7.1, ())))) fuel ((0 : Int), a0, (((List.length a0) : Nat) : Int), (0 : Int), ()))
noncomputable def C140 : Fun := ⟨[(.ro (.slice (.int .i64)))], [((.int .i64), .z)], fun z => F140 z.1⟩
noncomputable def E140 : Env := ⟨18, tyTab tys, oneTab ones, fnTab [], false, [], [(3, [3, 6, 7, 8], []), (4, [3, 6, 7, 8], []), (7, [3, 6, 7, 8], []), (8, [3], []), (100000, [3], []), (100001, [3, 6, 7, 8], []), (99999, [2], [])], none, [], []⟩
noncomputable def L140 : List (LoopS (Int × Unit)) := [⟨3, ⟨[(3, (.pv (.int .i64))), (6, (.pv (.slice (.int .i64)))), (7, (.pv (.int .i64))), (8, (.pv (.int .i64)))], []⟩, fun κ => F140_R3 (fun y => κ.exit 0 (SSh.mk' ⟨[(3, (.pv (.int .i64)))], []⟩ y)) (fun y => κ.ret (SSh.mk' ⟨[(2, (.pv (.int .i64)))], []⟩ y))⟩]
theorem L140_3 : RoundEq E140 L140 L140[0] (nthLoop (codeOf Tryz.f140) 0) := fun κ N x => by kernel_rfl
theorem C140_ok : QuietOk Tryz.prog 140 C140 := tQ E140 L140 [nthLoop (codeOf Tryz.f140) 0] Tryz.func140 ty_ok .nil (.cons L140[0] (by kernel_rfl) L140_3 .nil)
noncomputable def F166 (a0 : Int) : Option (Bool × Unit) :=
 (some ((a0 != a0), ()))
noncomputable def C166 : Fun := ⟨[(.ro (.int .i64))], [(.bool, .z)], fun z => F166 z.1⟩
noncomputable def E166 : Env := ⟨6, tyTab tys, oneTab ones, fnTab [], false, [], [(99999, [2], [])], none, [], []⟩
noncomputable def L166 : List (LoopS (Bool × Unit)) := []
theorem C166_ok : QuietOk Tryz.prog 166 C166 := tQ E166 L166 [] Tryz.func166 ty_ok .nil .nil
noncomputable def F142 (a0 : Int) (a1 : Int) : Option (Int × Unit) :=
 (Option.bind (F166 a0) fun y0 =>
 (Option.bind (F166 a1) fun y1 =>
 (cond y0.1
 (cond y1.1
 (some ((0 : Int), ()))
 (some ((-(1 : Int)), ())))
 (cond y1.1
 (some ((1 : Int), ()))
 (cond (decide (a0 < a1))
 (some ((-(1 : Int)), ()))
 (cond (decide (a0 > a1))
 (some ((1 : Int), ()))
 (some ((0 : Int), ()))))))))
noncomputable def C142 : Fun := ⟨[(.ro (.int .i64)), (.ro (.int .i64))], [((.int .i64), .z)], fun z => F142 z.1 z.2.1⟩
noncomputable def E142 : Env := ⟨20, tyTab tys, oneTab ones, fnTab [(166, C166)], false, [], [(6, [], []), (7, [0, 1, 6], []), (9, [0, 1], []), (11, [0, 1], []), (13, [], []), (99999, [4], [])], none, [], []⟩
noncomputable def L142 : List (LoopS (Int × Unit)) := []
theorem C142_ok : QuietOk Tryz.prog 142 C142 := tQ E142 L142 [] Tryz.func142 ty_ok (.cons C166_ok .nil) .nil
noncomputable def F102 (a0 : D82) (a1 : D82) : Option (Int × Unit) :=
 (Option.bind (F141 a0.1 a1.1) fun y0 =>
 (Option.bind (F142 a0.2.1 a1.2.1) fun y1 =>
 (Option.bind (F140 [y0.1, y1.1]) fun y2 =>
 (some (y2.1, ())))))
noncomputable def C102 : Fun := ⟨[(.ro Y82), (.ro Y82)], [((.int .i64), .z)], fun z => F102 z.1 z.2.1⟩
noncomputable def E102 : Env := ⟨17, tyTab tys, oneTab ones, fnTab [(140, C140), (141, C141), (142, C142)], false, [120], [(99999, [4], [])], none, [], []⟩
noncomputable def L102 : List (LoopS (Int × Unit)) := []
theorem C102_ok : QuietOk Tryz.prog 102 C102 := tQ E102 L102 [] Tryz.func102 ty_ok (.cons C140_ok (.cons C141_ok (.cons C142_ok .nil))) .nil
noncomputable def F103 (a0 : Int) (a1 : Int) : Option (Bool × Unit) :=
 (Option.bind (F36 a0 (0 : Int) (IntKind.wrap IntKind.i64 (a1 - (1 : Int)))) fun y0 =>
 (some (y0.1, ())))
noncomputable def C103 : Fun := ⟨[(.ro (.int .i64)), (.ro (.int .i64))], [(.bool, .z)], fun z => F103 z.1 z.2.1⟩
noncomputable def E103 : Env := ⟨9, tyTab tys, oneTab ones, fnTab [(36, C36)], false, [], [(99999, [4], [])], none, [], []⟩
noncomputable def L103 : List (LoopS (Bool × Unit)) := []
theorem C103_ok : QuietOk Tryz.prog 103 C103 := tQ E103 L103 [] Tryz.func103 ty_ok (.cons C36_ok .nil) .nil
noncomputable def F65_R2 (e0_0 : D56 × Unit → Option (Bool × Unit)) (er_1 : Bool × Unit → Option (Bool × Unit)) (rec : List (D82) × Int × Int × D56 × Unit → Option (Bool × Unit)) (x2 : List (D82) × Int × Int × D56 × Unit) : Option (Bool × Unit) :=
 (cond (decide (x2.2.2.1 < x2.2.1))
 (let j9 : List (D82) × Int × Int × D56 × Unit → Option (Bool × Unit) := fun (y10 : List (D82) × Int × Int × D56 × Unit) =>
 (rec (y10.1, y10.2.1, (IntKind.wrap IntKind.i64 (y10.2.2.1 + (1 : Int))), y10.2.2.2.1, ()))
 (gd (decide ((0 : Int) ≤ x2.2.2.1))
 (Option.bind x2.1[(Int.toNat x2.2.2.1)]? fun y5 =>
 (Option.bind (F101 y5) fun y6 =>
 (cond (!y6.1)
 (er_1 (false, ()))
 (cond (decide (x2.2.2.1 > (0 : Int)))
 (gd (decide ((0 : Int) ≤ (IntKind.wrap IntKind.i64 (x2.2.2.1 - (1 : Int)))))
 (Option.bind x2.2.2.2.1.2.2.2.1[(Int.toNat (IntKind.wrap IntKind.i64 (x2.2.2.1 - (1 : Int))))]? fun y7 =>
 (Option.bind (F102 y7 y5) fun y8 =>
 (cond (decide (y8.1 ≥ (0 : Int)))
 (er_1 (false, ()))
 (j9 (x2.1, x2.2.1, x2.2.2.1, x2.2.2.2.1, ()))))))
 (j9 (x2.1, x2.2.1, x2.2.2.1, x2.2.2.2.1, ()))))))))
 (e0_0 (x2.2.2.2.1, ())))
noncomputable def F65 (a0 : D56) : Option (Bool × Unit) :=
 (iter (F65_R2
 (fun y11 =>
 (Option.bind (F103 y11.1.1 (4 : Int)) fun y13 =>
 (cond y13.1
 (Option.bind (F36 y11.1.2.1 (0 : Int) (10000 : Int)) fun y14 =>
 (cond y14.1
 (cond (decide ((((List.length y11.1.2.2.1) : Nat) : Int) ≤ (20 : Int)))
 (Option.bind (F99 y11.1.2.2.1) fun y15 =>
 (some (y15.1, ())))
 (some (false, ())))
 (some (false, ()))))
 (some (false, ())))))
 (fun y12 =>
 (some (y12.1, ())))) fuel (a0.2.2.2.1, (((List.length a0.2.2.2.1) : Nat) : Int), (0 : Int), a0, ()))
noncomputable def C65 : Fun := ⟨[(.ro Y56)], [(.bool, .z)], fun z => F65 z.1⟩
noncomputable def E65 : Env := ⟨51, tyTab tys, oneTab ones, fnTab [(36, C36), (99, C99), (101, C101), (102, C102), (103, C103)], false, [], [(2, [1, 6, 7, 8], []), (3, [1, 6, 7, 8], []), (6, [1, 6, 7, 8], []), (7, [1], []), (100000, [1], []), (100001, [1, 6, 7, 8], []), (99999, [2], [])], none, [], []⟩
noncomputable def L65 : List (LoopS (Bool × Unit)) := [⟨2, ⟨[(1, (.ptr 8 [])), (6, (.pv (.slice Y82))), (7, (.pv (.int .i64))), (8, (.pv (.int .i64)))], [(8, (.data true Y56 .z))]⟩, fun κ => F65_R2 (fun y => κ.exit 0 (SSh.mk' ⟨[(1, (.ptr 8 []))], [(8, (.data true Y56 .z))]⟩ y)) (fun y => κ.ret (SSh.mk' ⟨[(2, (.pv .bool))], []⟩ y))⟩]
theorem L65_2 : RoundEq E65 L65 L65[0] (nthLoop (codeOf Tryz.f65) 0) := fun κ N x => by kernel_rfl
theorem C65_ok : QuietOk Tryz.prog 65 C65 := tQ E65 L65 [nthLoop (codeOf Tryz.f65) 0] Tryz.func65 ty_ok (.cons C36_ok (.cons C99_ok (.cons C101_ok (.cons C102_ok (.cons C103_ok .nil))))) (.cons L65[0] (by kernel_rfl) L65_2 .nil)
noncomputable def F104_R2 (e0_0 : Unit → Option (Int × Unit)) (er_1 : Int × Unit → Option (Int × Unit)) (rec : List (D82) × (D82 → Option (Bool)) × Int × Int × Unit → Option (Int × Unit)) (x2 : List (D82) × (D82 → Option (Bool)) × Int × Int × Unit) : Option (Int × Unit) :=
 (cond (decide (x2.2.2.2.1 < x2.2.2.1))
 (gd (decide ((0 : Int) ≤ x2.2.2.2.1))
 (Option.bind x2.1[(Int.toNat x2.2.2.2.1)]? fun y5 =>
 (Option.bind (x2.2.1 y5) fun y6 =>
 (cond y6
 (er_1 (x2.2.2.2.1, ()))
 (rec (x2.1, x2.2.1, x2.2.2.1, (IntKind.wrap IntKind.i64 (x2.2.2.2.1 + (1 : Int))), ()))))))
 (e0_0 (())))
noncomputable def F104 (a0 : List (D82)) (a1 : (D82 → Option (Bool))) : Option (Int × Unit) :=
 (iter (F104_R2
 (fun y7 =>
 (some ((-(1 : Int)), ())))
 (fun y8 =>
 (some (y8.1, ())))) fuel (a0, a1, (((List.length a0) : Nat) : Int), (0 : Int), ()))
noncomputable def C104 : Fun := ⟨[(.ro (.slice Y82)), (.fn Y82 .bool)], [((.int .i64), .z)], fun z => F104 z.1 z.2.1⟩
noncomputable def E104 : Env := ⟨19, tyTab tys, oneTab ones, fnTab [], false, [], [(2, [0, 1, 7, 8], []), (3, [0, 1, 7, 8], []), (6, [0, 1, 7, 8], []), (7, [], []), (100000, [], []), (100001, [0, 1, 7, 8], []), (99999, [4], [])], none, [], []⟩
noncomputable def L104 : List (LoopS (Int × Unit)) := [⟨2, ⟨[(0, (.pv (.slice Y82))), (1, (.fnA Y82 .bool)), (7, (.pv (.int .i64))), (8, (.pv (.int .i64)))], []⟩, fun κ => F104_R2 (fun y => κ.exit 0 (SSh.mk' ⟨[], []⟩ y)) (fun y => κ.ret (SSh.mk' ⟨[(4, (.pv (.int .i64)))], []⟩ y))⟩]
theorem L104_2 : RoundEq E104 L104 L104[0] (nthLoop (codeOf Tryz.f104) 0) := fun κ N x => by kernel_rfl
theorem C104_ok : QuietOk Tryz.prog 104 C104 := tQ E104 L104 [nthLoop (codeOf Tryz.f104) 0] Tryz.func104 ty_ok .nil (.cons L104[0] (by kernel_rfl) L104_2 .nil)
noncomputable def F66 (a0 : List (D82)) (a1 : (D82 → Option (Bool))) : Option (Bool × Unit) :=
 (Option.bind (F104 a0 a1) fun y0 =>
 (some ((decide (y0.1 ≥ (0 : Int))), ())))
noncomputable def C66 : Fun := ⟨[(.ro (.slice Y82)), (.fn Y82 .bool)], [(.bool, .z)], fun z => F66 z.1 z.2.1⟩
noncomputable def E66 : Env := ⟨9, tyTab tys, oneTab ones, fnTab [(104, C104)], false, [], [(99999, [4], [])], none, [], []⟩
noncomputable def L66 : List (LoopS (Bool × Unit)) := []
theorem C66_ok : QuietOk Tryz.prog 66 C66 := tQ E66 L66 [] Tryz.func66 ty_ok (.cons C104_ok .nil) .nil
noncomputable def F105_R2 (e0_0 : Unit → Option (Int × Unit)) (er_1 : Int × Unit → Option (Int × Unit)) (rec : List (D51) × (D51 → Option (Bool)) × Int × Int × Unit → Option (Int × Unit)) (x2 : List (D51) × (D51 → Option (Bool)) × Int × Int × Unit) : Option (Int × Unit) :=
 (cond (decide (x2.2.2.2.1 < x2.2.2.1))
 (gd (decide ((0 : Int) ≤ x2.2.2.2.1))
 (Option.bind x2.1[(Int.toNat x2.2.2.2.1)]? fun y5 =>
 (Option.bind (x2.2.1 y5) fun y6 =>
 (cond y6
 (er_1 (x2.2.2.2.1, ()))
 (rec (x2.1, x2.2.1, x2.2.2.1, (IntKind.wrap IntKind.i64 (x2.2.2.2.1 + (1 : Int))), ()))))))
 (e0_0 (())))
noncomputable def F105 (a0 : List (D51)) (a1 : (D51 → Option (Bool))) : Option (Int × Unit) :=
 (iter (F105_R2
 (fun y7 =>
 (some ((-(1 : Int)), ())))
 (fun y8 =>
 (some (y8.1, ())))) fuel (a0, a1, (((List.length a0) : Nat) : Int), (0 : Int), ()))
noncomputable def C105 : Fun := ⟨[(.ro (.slice Y51)), (.fn Y51 .bool)], [((.int .i64), .z)], fun z => F105 z.1 z.2.1⟩
noncomputable def E105 : Env := ⟨19, tyTab tys, oneTab ones, fnTab [], false, [], [(2, [0, 1, 7, 8], []), (3, [0, 1, 7, 8], []), (6, [0, 1, 7, 8], []), (7, [], []), (100000, [], []), (100001, [0, 1, 7, 8], []), (99999, [4], [])], none, [], []⟩
noncomputable def L105 : List (LoopS (Int × Unit)) := [⟨2, ⟨[(0, (.pv (.slice Y51))), (1, (.fnA Y51 .bool)), (7, (.pv (.int .i64))), (8, (.pv (.int .i64)))], []⟩, fun κ => F105_R2 (fun y => κ.exit 0 (SSh.mk' ⟨[], []⟩ y)) (fun y => κ.ret (SSh.mk' ⟨[(4, (.pv (.int .i64)))], []⟩ y))⟩]
theorem L105_2 : RoundEq E105 L105 L105[0] (nthLoop (codeOf Tryz.f105) 0) := fun κ N x => by kernel_rfl
theorem C105_ok : QuietOk Tryz.prog 105 C105 := tQ E105 L105 [nthLoop (codeOf Tryz.f105) 0] Tryz.func105 ty_ok .nil (.cons L105[0] (by kernel_rfl) L105_2 .nil)
noncomputable def F106 (a0 : D51) (a1 : List UInt8) : Option (Bool × Unit) :=
 (some ((a0.1 == a1), ()))
noncomputable def C106 : Fun := ⟨[(.ro Y51), (.rp .str)], [(.bool, .z)], fun z => F106 z.1 z.2.1⟩
noncomputable def E106 : Env := ⟨8, tyTab tys, oneTab ones, fnTab [], false, [], [(99999, [3], [])], none, [], []⟩
noncomputable def L106 : List (LoopS (Bool × Unit)) := []
theorem C106_ok : QuietOk Tryz.prog 106 C106 := tQ E106 L106 [] Tryz.func106 ty_ok .nil .nil
noncomputable def F68 (a0 : List (D51)) (a1 : List UInt8) : Option (Int × Unit) :=
 (Option.bind (F105 a0 (fun (v3 : D51) => (Option.map (fun (v4 : (Bool × Unit)) => v4.1) (F106 v3 a1)))) fun y0 =>
 (some (y0.1, ())))
noncomputable def C68 : Fun := ⟨[(.ro (.slice Y51)), (.ro .str)], [((.int .i64), .z)], fun z => F68 z.1 z.2.1⟩
noncomputable def E68 : Env := ⟨8, tyTab tys, oneTab ones, fnTab [(105, C105), (106, C106)], false, [], [(99999, [4], [])], none, [], []⟩
noncomputable def L68 : List (LoopS (Int × Unit)) := []
theorem C68_ok : QuietOk Tryz.prog 68 C68 := tQ E68 L68 [] Tryz.func68 ty_ok (.cons C105_ok (.cons C106_ok .nil)) .nil
noncomputable def F67 (a0 : D82) (a1 : D25) : Option (Bool × Unit) :=
 (Option.bind (F68 a1.1 a0.1) fun y0 =>
 (some ((decide (y0.1 < (0 : Int))), ())))
noncomputable def C67 : Fun := ⟨[(.ro Y82), (.rp Y25)], [(.bool, .z)], fun z => F67 z.1 z.2.1⟩
noncomputable def E67 : Env := ⟨10, tyTab tys, oneTab ones, fnTab [(68, C68)], false, [], [(99999, [3], [])], none, [], []⟩
noncomputable def L67 : List (LoopS (Bool × Unit)) := []
theorem C67_ok : QuietOk Tryz.prog 67 C67 := tQ E67 L67 [] Tryz.func67 ty_ok (.cons C68_ok .nil) .nil
noncomputable def F37_R2 (e0_0 : Unit → Option (Bool × Unit)) (er_1 : Bool × Unit → Option (Bool × Unit)) (rec : List (D56) × Int × Int × D25 × Unit → Option (Bool × Unit)) (x2 : List (D56) × Int × Int × D25 × Unit) : Option (Bool × Unit) :=
 (cond (decide (x2.2.2.1 < x2.2.1))
 (gd (decide ((0 : Int) ≤ x2.2.2.1))
 (Option.bind x2.1[(Int.toNat x2.2.2.1)]? fun y5 =>
 (let j9 : List (D56) × Int × Int × D25 × D56 × Unit → Option (Bool × Unit) := fun (y10 : List (D56) × Int × Int × D25 × D56 × Unit) =>
 (Option.bind (F66 y10.2.2.2.2.1.2.2.2.1 (fun (v11 : D82) => (Option.map (fun (v12 : (Bool × Unit)) => v12.1) (F67 v11 y10.2.2.2.1)))) fun y11 =>
 (cond y11.1
 (er_1 (false, ()))
 (rec (y10.1, y10.2.1, (IntKind.wrap IntKind.i64 (y10.2.2.1 + (1 : Int))), y10.2.2.2.1, ()))))
 (Option.bind (F65 y5) fun y7 =>
 (cond (!y7.1)
 (er_1 (false, ()))
 (cond (decide (x2.2.2.1 > (0 : Int)))
 (gd (decide ((0 : Int) ≤ (IntKind.wrap IntKind.i64 (x2.2.2.1 - (1 : Int)))))
 (Option.bind x2.2.2.2.1.2.1[(Int.toNat (IntKind.wrap IntKind.i64 (x2.2.2.1 - (1 : Int))))]? fun y8 =>
 (cond (decide (y8.1 ≥ y5.1))
 (er_1 (false, ()))
 (cond (decide (y5.2.1 > x2.2.2.2.1.2.2.2.1))
 (er_1 (false, ()))
 (j9 (x2.1, x2.2.1, x2.2.2.1, x2.2.2.2.1, y5, ()))))))
 (cond (decide (y5.2.1 > x2.2.2.2.1.2.2.2.1))
 (er_1 (false, ()))
 (j9 (x2.1, x2.2.1, x2.2.2.1, x2.2.2.2.1, y5, ())))))))))
 (e0_0 (())))
noncomputable def F37 (a0 : D25) : Option (Bool × Unit) :=
 (iter (F37_R2
 (fun y12 =>
 (some (true, ())))
 (fun y13 =>
 (some (y13.1, ())))) fuel (a0.2.1, (((List.length a0.2.1) : Nat) : Int), (0 : Int), a0, ()))
noncomputable def C37 : Fun := ⟨[(.ro Y25)], [(.bool, .z)], fun z => F37 z.1⟩
noncomputable def E37 : Env := ⟨44, tyTab tys, oneTab ones, fnTab [(65, C65), (66, C66), (67, C67)], false, [], [(2, [1, 6, 7, 8], []), (3, [1, 6, 7, 8], []), (6, [1, 4, 6, 7, 8], []), (8, [1, 6, 7, 8], []), (9, [], []), (100000, [], []), (100001, [1, 6, 7, 8], []), (99999, [2], [])], none, [], []⟩
noncomputable def L37 : List (LoopS (Bool × Unit)) := [⟨2, ⟨[(1, (.ptr 8 [])), (6, (.pv (.slice Y56))), (7, (.pv (.int .i64))), (8, (.pv (.int .i64)))], [(8, (.data true Y25 .z))]⟩, fun κ => F37_R2 (fun y => κ.exit 0 (SSh.mk' ⟨[], []⟩ y)) (fun y => κ.ret (SSh.mk' ⟨[(2, (.pv .bool))], []⟩ y))⟩]
theorem L37_2 : RoundEq E37 L37 L37[0] (nthLoop (codeOf Tryz.f37) 0) := fun κ N x => by kernel_rfl
theorem C37_ok : QuietOk Tryz.prog 37 C37 := tQ E37 L37 [nthLoop (codeOf Tryz.f37) 0] Tryz.func37 ty_ok (.cons C65_ok (.cons C66_ok (.cons C67_ok .nil))) (.cons L37[0] (by kernel_rfl) L37_2 .nil)
noncomputable def F69_R2 (e0_0 : Unit → Option (Int × Unit)) (er_1 : Int × Unit → Option (Int × Unit)) (rec : List (D60) × (D60 → Option (Bool)) × Int × Int × Unit → Option (Int × Unit)) (x2 : List (D60) × (D60 → Option (Bool)) × Int × Int × Unit) : Option (Int × Unit) :=
 (cond (decide (x2.2.2.2.1 < x2.2.2.1))
 (gd (decide ((0 : Int) ≤ x2.2.2.2.1))
 (Option.bind x2.1[(Int.toNat x2.2.2.2.1)]? fun y5 =>
 (Option.bind (x2.2.1 y5) fun y6 =>
 (cond y6
 (er_1 (x2.2.2.2.1, ()))
 (rec (x2.1, x2.2.1, x2.2.2.1, (IntKind.wrap IntKind.i64 (x2.2.2.2.1 + (1 : Int))), ()))))))
 (e0_0 (())))
noncomputable def F69 (a0 : List (D60)) (a1 : (D60 → Option (Bool))) : Option (Int × Unit) :=
 (iter (F69_R2
 (fun y7 =>
 (some ((-(1 : Int)), ())))
 (fun y8 =>
 (some (y8.1, ())))) fuel (a0, a1, (((List.length a0) : Nat) : Int), (0 : Int), ()))
noncomputable def C69 : Fun := ⟨[(.ro (.slice Y60)), (.fn Y60 .bool)], [((.int .i64), .z)], fun z => F69 z.1 z.2.1⟩
noncomputable def E69 : Env := ⟨19, tyTab tys, oneTab ones, fnTab [], false, [], [(2, [0, 1, 7, 8], []), (3, [0, 1, 7, 8], []), (6, [0, 1, 7, 8], []), (7, [], []), (100000, [], []), (100001, [0, 1, 7, 8], []), (99999, [4], [])], none, [], []⟩
noncomputable def L69 : List (LoopS (Int × Unit)) := [⟨2, ⟨[(0, (.pv (.slice Y60))), (1, (.fnA Y60 .bool)), (7, (.pv (.int .i64))), (8, (.pv (.int .i64)))], []⟩, fun κ => F69_R2 (fun y => κ.exit 0 (SSh.mk' ⟨[], []⟩ y)) (fun y => κ.ret (SSh.mk' ⟨[(4, (.pv (.int .i64)))], []⟩ y))⟩]
theorem L69_2 : RoundEq E69 L69 L69[0] (nthLoop (codeOf Tryz.f69) 0) := fun κ N x => by kernel_rfl
theorem C69_ok : QuietOk Tryz.prog 69 C69 := tQ E69 L69 [nthLoop (codeOf Tryz.f69) 0] Tryz.func69 ty_ok .nil (.cons L69[0] (by kernel_rfl) L69_2 .nil)
noncomputable def F38 (a0 : List (D60)) (a1 : (D60 → Option (Bool))) : Option (Bool × Unit) :=
 (Option.bind (F69 a0 a1) fun y0 =>
 (some ((decide (y0.1 ≥ (0 : Int))), ())))
noncomputable def C38 : Fun := ⟨[(.ro (.slice Y60)), (.fn Y60 .bool)], [(.bool, .z)], fun z => F38 z.1 z.2.1⟩
noncomputable def E38 : Env := ⟨9, tyTab tys, oneTab ones, fnTab [(69, C69)], false, [], [(99999, [4], [])], none, [], []⟩
noncomputable def L38 : List (LoopS (Bool × Unit)) := []
theorem C38_ok : QuietOk Tryz.prog 38 C38 := tQ E38 L38 [] Tryz.func38 ty_ok (.cons C69_ok .nil) .nil
noncomputable def F39 (a0 : D60) (a1 : D25) : Option (Bool × Unit) :=
 (some ((decide (a0.2.1 > a1.2.2.2.1)), ()))
noncomputable def C39 : Fun := ⟨[(.ro Y60), (.rp Y25)], [(.bool, .z)], fun z => F39 z.1 z.2.1⟩
noncomputable def E39 : Env := ⟨9, tyTab tys, oneTab ones, fnTab [], false, [], [(99999, [3], [])], none, [], []⟩
noncomputable def L39 : List (LoopS (Bool × Unit)) := []
theorem C39_ok : QuietOk Tryz.prog 39 C39 := tQ E39 L39 [] Tryz.func39 ty_ok .nil .nil
noncomputable def F17_R7 (e2_0 : List (D51) × Int × Int × D25 × Unit → Option (Bool × Unit)) (er_1 : Bool × Unit → Option (Bool × Unit)) (rec : List (D51) × Int × Int × List (D70) × Int × Int × D25 × Unit → Option (Bool × Unit)) (x12 : List (D51) × Int × Int × List (D70) × Int × Int × D25 × Unit) : Option (Bool × Unit) :=
 (cond (decide (x12.2.2.2.2.2.1 < x12.2.2.2.2.1))
 (gd (decide ((0 : Int) ≤ x12.2.2.2.2.2.1))
 (Option.bind x12.2.2.2.1[(Int.toNat x12.2.2.2.2.2.1)]? fun y15 =>
 (gd (decide ((0 : Int) ≤ (IntKind.wrap IntKind.i64 ((((List.length y15.2.1) : Nat) : Int) - (1 : Int)))))
 (Option.bind y15.2.1[(Int.toNat (IntKind.wrap IntKind.i64 ((((List.length y15.2.1) : Nat) : Int) - (1 : Int))))]? fun y16 =>
 (cond (decide (y16.1 > x12.2.2.2.2.2.2.1.2.2.2.1))
 (er_1 (false, ()))
 (rec (x12.1, x12.2.1, x12.2.2.1, x12.2.2.2.1, x12.2.2.2.2.1, (IntKind.wrap IntKind.i64 (x12.2.2.2.2.2.1 + (1 : Int))), x12.2.2.2.2.2.2.1, ())))))))
 (e2_0 (x12.1, x12.2.1, x12.2.2.1, x12.2.2.2.2.2.2.1, ())))
noncomputable def F17_R4 (e0_0 : D25 × Unit → Option (Bool × Unit)) (er_1 : Bool × Unit → Option (Bool × Unit)) (rec : List (D51) × Int × Int × D25 × Unit → Option (Bool × Unit)) (x7 : List (D51) × Int × Int × D25 × Unit) : Option (Bool × Unit) :=
 (cond (decide (x7.2.2.1 < x7.2.1))
 (gd (decide ((0 : Int) ≤ x7.2.2.1))
 (Option.bind x7.1[(Int.toNat x7.2.2.1)]? fun y10 =>
 (iter (F17_R7
 (fun y17 =>
 (rec (y17.1, y17.2.1, (IntKind.wrap IntKind.i64 (y17.2.2.1 + (1 : Int))), y17.2.2.2.1, ())))
 (fun y18 =>
 (er_1 (y18.1, ())))) fuel (x7.1, x7.2.1, x7.2.2.1, y10.2.1, (((List.length y10.2.1) : Nat) : Int), (0 : Int), x7.2.2.2.1, ()))))
 (e0_0 (x7.2.2.2.1, ())))
noncomputable def F17 (a0 : D25) : Option (Bool × Unit) :=
 (cond ((((List.length a0.1) : Nat) : Int) == (0 : Int))
 (some (false, ()))
 (Option.bind (F34 a0.1) fun y1 =>
 (cond (!y1.1)
 (some (false, ()))
 (Option.bind (F35 a0.2.2.1) fun y2 =>
 (cond (!y2.1)
 (some (false, ()))
 (Option.bind (F36 a0.2.2.2.1 (0 : Int) (10000 : Int)) fun y3 =>
 (cond (!y3.1)
 (some (false, ()))
 (Option.bind (F37 a0) fun y4 =>
 (cond (!y4.1)
 (some (false, ()))
 (iter (F17_R4
 (fun y19 =>
 (Option.bind (F38 y19.1.2.2.1 (fun (v9 : D60) => (Option.map (fun (v10 : (Bool × Unit)) => v10.1) (F39 v9 y19.1)))) fun y21 =>
 (some ((!y21.1), ()))))
 (fun y20 =>
 (some (y20.1, ())))) fuel (a0.1, (((List.length a0.1) : Nat) : Int), (0 : Int), a0, ())))))))))))
noncomputable def C17 : Fun := ⟨[(.ro Y25)], [(.bool, .z)], fun z => F17 z.1⟩
noncomputable def E17 : Env := ⟨67, tyTab tys, oneTab ones, fnTab [(34, C34), (35, C35), (36, C36), (37, C37), (38, C38), (39, C39)], false, [], [(3, [1], []), (4, [1, 35, 36, 37], []), (5, [1, 35, 36, 37], []), (7, [1, 35, 36, 37, 42, 43, 44], []), (8, [1, 35, 36, 37, 42, 43, 44], []), (11, [1, 35, 36, 37, 42, 43, 44], []), (12, [1, 35, 36, 37], []), (13, [1], []), (100000, [1], []), (100001, [1, 35, 36, 37], []), (100002, [1, 35, 36, 37], []), (100003, [1, 35, 36, 37, 42, 43, 44], []), (99999, [2], [])], none, [], []⟩
noncomputable def L17 : List (LoopS (Bool × Unit)) := [⟨7, ⟨[(1, (.ptr 8 [])), (35, (.pv (.slice Y51))), (36, (.pv (.int .i64))), (37, (.pv (.int .i64))), (42, (.pv (.slice Y70))), (43, (.pv (.int .i64))), (44, (.pv (.int .i64)))], [(8, (.data true Y25 .z))]⟩, fun κ => F17_R7 (fun y => κ.exit 2 (SSh.mk' ⟨[(1, (.ptr 8 [])), (35, (.pv (.slice Y51))), (36, (.pv (.int .i64))), (37, (.pv (.int .i64)))], [(8, (.data true Y25 .z))]⟩ y)) (fun y => κ.ret (SSh.mk' ⟨[(2, (.pv .bool))], []⟩ y))⟩,
  ⟨4, ⟨[(1, (.ptr 8 [])), (35, (.pv (.slice Y51))), (36, (.pv (.int .i64))), (37, (.pv (.int .i64)))], [(8, (.data true Y25 .z))]⟩, fun κ => F17_R4 (fun y => κ.exit 0 (SSh.mk' ⟨[(1, (.ptr 8 []))], [(8, (.data true Y25 .z))]⟩ y)) (fun y => κ.ret (SSh.mk' ⟨[(2, (.pv .bool))], []⟩ y))⟩]
theorem L17_7 : RoundEq E17 L17 L17[0] (nthLoop (codeOf Tryz.f17) 1) := fun κ N x => by kernel_rfl
theorem L17_4 : RoundEq E17 L17 L17[1] (nthLoop (codeOf Tryz.f17) 0) := fun κ N x => by kernel_rfl
theorem C17_ok : QuietOk Tryz.prog 17 C17 := tQ E17 L17 [nthLoop (codeOf Tryz.f17) 0, nthLoop (codeOf Tryz.f17) 1] Tryz.func17 ty_ok (.cons C34_ok (.cons C35_ok (.cons C36_ok (.cons C37_ok (.cons C38_ok (.cons C39_ok .nil)))))) (.cons L17[1] (by kernel_rfl) L17_4 (.cons L17[0] (by kernel_rfl) L17_7 .nil))
noncomputable def F42_R4 (e0_0 : Unit → Option (Bool × Unit)) (er_1 : Bool × Unit → Option (Bool × Unit)) (rec : List (D72) × List (D72) × Int × Int × Unit → Option (Bool × Unit)) (x3 : List (D72) × List (D72) × Int × Int × Unit) : Option (Bool × Unit) :=
 (cond (decide (x3.2.2.2.1 < x3.2.2.1))
 (gd (decide ((0 : Int) ≤ x3.2.2.2.1))
 (Option.bind x3.1[(Int.toNat x3.2.2.2.1)]? fun y6 =>
 (gd (decide ((0 : Int) ≤ x3.2.2.2.1))
 (Option.bind x3.2.1[(Int.toNat x3.2.2.2.1)]? fun y7 =>
 (cond (!((decide (y6.1 = y7.1)) && ((decide (y6.2.1 = y7.2.1)) && ((y6.2.2.1 == y7.2.2.1) && true))))
 (er_1 (false, ()))
 (rec (x3.1, x3.2.1, x3.2.2.1, (IntKind.wrap IntKind.i64 (x3.2.2.2.1 + (1 : Int))), ())))))))
 (e0_0 (())))
noncomputable def F42 (a0 : List (D72)) (a1 : List (D72)) : Option (Bool × Unit) :=
 (cond ((((List.length a0) : Nat) : Int) != (((List.length a1) : Nat) : Int))
 (some (false, ()))
 (iter (F42_R4
 (fun y8 =>
 (some (true, ())))
 (fun y9 =>
 (some (y9.1, ())))) fuel (a0, a1, (((List.length a0) : Nat) : Int), (0 : Int), ())))
noncomputable def C42 : Fun := ⟨[(.ro (.slice Y72)), (.ro (.slice Y72))], [(.bool, .z)], fun z => F42 z.1 z.2.1⟩
noncomputable def E42 : Env := ⟨26, tyTab tys, oneTab ones, fnTab [], false, [], [(3, [0, 1], []), (4, [0, 1, 12, 13], []), (5, [0, 1, 12, 13], []), (8, [0, 1, 12, 13], []), (9, [], []), (100000, [], []), (100001, [0, 1, 12, 13], []), (99999, [4], [])], none, [], []⟩
noncomputable def L42 : List (LoopS (Bool × Unit)) := [⟨4, ⟨[(0, (.pv (.slice Y72))), (1, (.pv (.slice Y72))), (12, (.pv (.int .i64))), (13, (.pv (.int .i64)))], []⟩, fun κ => F42_R4 (fun y => κ.exit 0 (SSh.mk' ⟨[], []⟩ y)) (fun y => κ.ret (SSh.mk' ⟨[(4, (.pv .bool))], []⟩ y))⟩]
theorem L42_4 : RoundEq E42 L42 L42[0] (nthLoop (codeOf Tryz.f42) 0) := fun κ N x => by kernel_rfl
theorem C42_ok : QuietOk Tryz.prog 42 C42 := tQ E42 L42 [nthLoop (codeOf Tryz.f42) 0] Tryz.func42 ty_ok .nil (.cons L42[0] (by kernel_rfl) L42_4 .nil)
noncomputable def F41 (a0 : D51) (a1 : D51) (a2 : D25) (a3 : D25) : Option (Bool × Unit) :=
 (cond (a0.1 == a1.1)
 (Option.bind (F43 a0 a2.2.2.2.1) fun y0 =>
 (Option.bind (F43 a1 a3.2.2.2.1) fun y1 =>
 (Option.bind (F42 y0.1 y1.1) fun y2 =>
 (some (y2.1, ())))))
 (some (false, ())))
noncomputable def C41 : Fun := ⟨[(.ro Y51), (.ro Y51), (.rp Y25), (.rp Y25)], [(.bool, .z)], fun z => F41 z.1 z.2.1 z.2.2.1 z.2.2.2.1⟩
noncomputable def E41 : Env := ⟨23, tyTab tys, oneTab ones, fnTab [(42, C42), (43, C43)], false, [], [(99999, [6], [])], none, [], []⟩
noncomputable def L41 : List (LoopS (Bool × Unit)) := []
theorem C41_ok : QuietOk Tryz.prog 41 C41 := tQ E41 L41 [] Tryz.func41 ty_ok (.cons C42_ok (.cons C43_ok .nil)) .nil
noncomputable def F40_R4 (e0_0 : Unit → Option (Bool × Unit)) (er_1 : Bool × Unit → Option (Bool × Unit)) (rec : List (D51) × D25 × D25 × List (D51) × Int × Int × Unit → Option (Bool × Unit)) (x3 : List (D51) × D25 × D25 × List (D51) × Int × Int × Unit) : Option (Bool × Unit) :=
 (cond (decide (x3.2.2.2.2.2.1 < x3.2.2.2.2.1))
 (gd (decide ((0 : Int) ≤ x3.2.2.2.2.2.1))
 (Option.bind x3.2.2.2.1[(Int.toNat x3.2.2.2.2.2.1)]? fun y6 =>
 (gd (decide ((0 : Int) ≤ x3.2.2.2.2.2.1))
 (Option.bind x3.1[(Int.toNat x3.2.2.2.2.2.1)]? fun y7 =>
 (Option.bind (F41 y6 y7 x3.2.1 x3.2.2.1) fun y8 =>
 (cond (!y8.1)
 (er_1 (false, ()))
 (rec (x3.1, x3.2.1, x3.2.2.1, x3.2.2.2.1, x3.2.2.2.2.1, (IntKind.wrap IntKind.i64 (x3.2.2.2.2.2.1 + (1 : Int))), ()))))))))
 (e0_0 (())))
noncomputable def F40 (a0 : List (D51)) (a1 : List (D51)) (a2 : (D25 × D25 × Unit)) : Option (Bool × Unit) :=
 (cond ((((List.length a0) : Nat) : Int) != (((List.length a1) : Nat) : Int))
 (some (false, ()))
 (iter (F40_R4
 (fun y9 =>
 (some (true, ())))
 (fun y10 =>
 (some (y10.1, ())))) fuel (a1, a2.1, a2.2.1, a0, (((List.length a0) : Nat) : Int), (0 : Int), ())))
noncomputable def C40 : Fun := ⟨[(.ro (.slice Y51)), (.ro (.slice Y51)), (.st 41 [Y25, Y25])], [(.bool, .z)], fun z => F40 z.1 z.2.1 z.2.2.1⟩
noncomputable def E40 : Env := ⟨32, tyTab tys, oneTab ones, fnTab [(41, C41)], false, [], [(3, [0, 1, 2], []), (4, [1, 2, 15, 16, 17], []), (5, [1, 2, 15, 16, 17], []), (9, [1, 2, 15, 16, 17], []), (10, [], []), (100000, [], []), (100001, [1, 2, 15, 16, 17], []), (99999, [6], [])], none, [], []⟩
noncomputable def L40 : List (LoopS (Bool × Unit)) := [⟨4, ⟨[(1, (.pv (.slice Y51))), (2, (.clo 41 [(.fptr Y25), (.fptr Y25)])), (15, (.pv (.slice Y51))), (16, (.pv (.int .i64))), (17, (.pv (.int .i64)))], []⟩, fun κ => F40_R4 (fun y => κ.exit 0 (SSh.mk' ⟨[], []⟩ y)) (fun y => κ.ret (SSh.mk' ⟨[(6, (.pv .bool))], []⟩ y))⟩]
theorem L40_4 : RoundEq E40 L40 L40[0] (nthLoop (codeOf Tryz.f40) 0) := fun κ N x => by kernel_rfl
theorem C40_ok : QuietOk Tryz.prog 40 C40 := tQ E40 L40 [nthLoop (codeOf Tryz.f40) 0] Tryz.func40 ty_ok (.cons C41_ok .nil) (.cons L40[0] (by kernel_rfl) L40_4 .nil)
noncomputable def F18 (a0 : D25) (a1 : D25) : Option (Bool × Unit) :=
 (Option.bind (F40 a0.1 a1.1 (a0, (a1, ()))) fun y0 =>
 (some (y0.1, ())))
noncomputable def C18 : Fun := ⟨[(.ro Y25), (.ro Y25)], [(.bool, .z)], fun z => F18 z.1 z.2.1⟩
noncomputable def E18 : Env := ⟨11, tyTab tys, oneTab ones, fnTab [(40, C40), (41, C41)], false, [], [(99999, [4], [])], none, [], []⟩
noncomputable def L18 : List (LoopS (Bool × Unit)) := []
theorem C18_ok : QuietOk Tryz.prog 18 C18 := tQ E18 L18 [] Tryz.func18 ty_ok (.cons C40_ok (.cons C41_ok .nil)) .nil
noncomputable def F7 (a0 : D25) (a1 : D25) : Option (Bool × Int × Unit) :=
 (Option.bind (F17 a0) fun y1 =>
 (cond (!y1.1)
 (some (false, ((1 : Int), ())))
 (Option.bind (F17 a1) fun y2 =>
 (cond (!y2.1)
 (some (false, ((1 : Int), ())))
 (Option.bind (F18 a0 a1) fun y3 =>
 (some (y3.1, ((0 : Int), ()))))))))
noncomputable def C7 : Fun := ⟨[(.ro Y25), (.ro Y25)], [(.bool, .z), ((.int .i64), .z)], fun z => F7 z.1 z.2.1⟩
noncomputable def E7 : Env := ⟨17, tyTab tys, oneTab ones, fnTab [(17, C17), (18, C18)], false, [], [(3, [2, 3], []), (99999, [4, 5], [])], none, [], []⟩
noncomputable def L7 : List (LoopS (Bool × Int × Unit)) := []
theorem C7_ok : QuietOk Tryz.prog 7 C7 := tQ E7 L7 [] Tryz.func7 ty_ok (.cons C17_ok (.cons C18_ok .nil)) .nil
noncomputable def F146 (a0 : D72) (a1 : D72) : Option (Bool × Unit) :=
 (cond (a0.1 != a1.1)
 (some (false, ()))
 (cond (a0.2.1 != a1.2.1)
 (some (false, ()))
 (cond (!(a0.2.2.1 == a1.2.2.1))
 (some (false, ()))
 (some (true, ())))))
noncomputable def C146 : Fun := ⟨[(.ro Y72), (.ro Y72)], [(.bool, .z)], fun z => F146 z.1 z.2.1⟩
noncomputable def E146 : Env := ⟨20, tyTab tys, oneTab ones, fnTab [], false, [], [(3, [2, 3], []), (5, [2, 3], []), (7, [], []), (99999, [4], [])], none, [], []⟩
noncomputable def L146 : List (LoopS (Bool × Unit)) := []
theorem C146_ok : QuietOk Tryz.prog 146 C146 := tQ E146 L146 [] Tryz.func146 ty_ok .nil .nil
noncomputable def F167 (a0 : D74) (a1 : D74) : Option (Bool × Unit) :=
 (cond (a0.1 != a1.1)
 (some (false, ()))
 (cond (!(a0.2.1 == a1.2.1))
 (some (false, ()))
 (Option.bind (F146 a0.2.2.1 a1.2.2.1) fun y3 =>
 (cond (!y3.1)
 (some (false, ()))
 (some (true, ()))))))
noncomputable def C167 : Fun := ⟨[(.ro Y74), (.ro Y74)], [(.bool, .z)], fun z => F167 z.1 z.2.1⟩
noncomputable def E167 : Env := ⟨21, tyTab tys, oneTab ones, fnTab [(146, C146)], false, [], [(3, [2, 3], []), (5, [2, 3], []), (7, [], []), (99999, [4], [])], none, [], []⟩
noncomputable def L167 : List (LoopS (Bool × Unit)) := []
theorem C167_ok : QuietOk Tryz.prog 167 C167 := tQ E167 L167 [] Tryz.func167 ty_ok (.cons C146_ok .nil) .nil
noncomputable def F143_R4 (e0_0 : Unit → Option (Bool × Unit)) (er_1 : Bool × Unit → Option (Bool × Unit)) (rec : List (D74) × List (D74) × Int × Unit → Option (Bool × Unit)) (x3 : List (D74) × List (D74) × Int × Unit) : Option (Bool × Unit) :=
 (cond (decide (x3.2.2.1 < (((List.length x3.1) : Nat) : Int)))
 (gd (decide ((0 : Int) ≤ x3.2.2.1))
 (Option.bind x3.1[(Int.toNat x3.2.2.1)]? fun y6 =>
 (gd (decide ((0 : Int) ≤ x3.2.2.1))
 (Option.bind x3.2.1[(Int.toNat x3.2.2.1)]? fun y7 =>
 (Option.bind (F167 y6 y7) fun y8 =>
 (cond (!y8.1)
 (er_1 (false, ()))
 (rec (x3.1, x3.2.1, (IntKind.wrap IntKind.i64 (x3.2.2.1 + (1 : Int))), ()))))))))
 (e0_0 (())))
noncomputable def F143 (a0 : List (D74)) (a1 : List (D74)) : Option (Bool × Unit) :=
 (cond ((((List.length a0) : Nat) : Int) != (((List.length a1) : Nat) : Int))
 (some (false, ()))
 (iter (F143_R4
 (fun y9 =>
 (some (true, ())))
 (fun y10 =>
 (some (y10.1, ())))) fuel (a0, a1, (0 : Int), ())))
noncomputable def C143 : Fun := ⟨[(.ro (.slice Y74)), (.ro (.slice Y74))], [(.bool, .z)], fun z => F143 z.1 z.2.1⟩
noncomputable def E143 : Env := ⟨27, tyTab tys, oneTab ones, fnTab [(167, C167)], false, [], [(3, [0, 1], []), (4, [0, 1, 5], []), (5, [0, 1, 5], []), (6, [0, 1, 5], []), (8, [], []), (100000, [], []), (100001, [0, 1, 5], []), (99999, [4], [])], none, [], []⟩
noncomputable def L143 : List (LoopS (Bool × Unit)) := [⟨4, ⟨[(0, (.pv (.slice Y74))), (1, (.pv (.slice Y74))), (5, (.pv (.int .i64)))], []⟩, fun κ => F143_R4 (fun y => κ.exit 0 (SSh.mk' ⟨[], []⟩ y)) (fun y => κ.ret (SSh.mk' ⟨[(4, (.pv .bool))], []⟩ y))⟩]
theorem L143_4 : RoundEq E143 L143 L143[0] (nthLoop (codeOf Tryz.f143) 0) := fun κ N x => by kernel_rfl
theorem C143_ok : QuietOk Tryz.prog 143 C143 := tQ E143 L143 [nthLoop (codeOf Tryz.f143) 0] Tryz.func143 ty_ok (.cons C167_ok .nil) (.cons L143[0] (by kernel_rfl) L143_4 .nil)
noncomputable def F108 (a0 : D70) (a1 : D70) : Option (Bool × Unit) :=
 (cond (a0.1 != a1.1)
 (some (false, ()))
 (Option.bind (F143 a0.2.1 a1.2.1) fun y2 =>
 (cond (!y2.1)
 (some (false, ()))
 (some (true, ())))))
noncomputable def C108 : Fun := ⟨[(.ro Y70), (.ro Y70)], [(.bool, .z)], fun z => F108 z.1 z.2.1⟩
noncomputable def E108 : Env := ⟨16, tyTab tys, oneTab ones, fnTab [(143, C143)], false, [], [(3, [2, 3], []), (5, [], []), (99999, [4], [])], none, [], []⟩
noncomputable def L108 : List (LoopS (Bool × Unit)) := []
theorem C108_ok : QuietOk Tryz.prog 108 C108 := tQ E108 L108 [] Tryz.func108 ty_ok (.cons C143_ok .nil) .nil
noncomputable def F71_R4 (e0_0 : Unit → Option (Bool × Unit)) (er_1 : Bool × Unit → Option (Bool × Unit)) (rec : List (D70) × List (D70) × Int × Unit → Option (Bool × Unit)) (x3 : List (D70) × List (D70) × Int × Unit) : Option (Bool × Unit) :=
 (cond (decide (x3.2.2.1 < (((List.length x3.1) : Nat) : Int)))
 (gd (decide ((0 : Int) ≤ x3.2.2.1))
 (Option.bind x3.1[(Int.toNat x3.2.2.1)]? fun y6 =>
 (gd (decide ((0 : Int) ≤ x3.2.2.1))
 (Option.bind x3.2.1[(Int.toNat x3.2.2.1)]? fun y7 =>
 (Option.bind (F108 y6 y7) fun y8 =>
 (cond (!y8.1)
 (er_1 (false, ()))
 (rec (x3.1, x3.2.1, (IntKind.wrap IntKind.i64 (x3.2.2.1 + (1 : Int))), ()))))))))
 (e0_0 (())))
noncomputable def F71 (a0 : List (D70)) (a1 : List (D70)) : Option (Bool × Unit) :=
 (cond ((((List.length a0) : Nat) : Int) != (((List.length a1) : Nat) : Int))
 (some (false, ()))
 (iter (F71_R4
 (fun y9 =>
 (some (true, ())))
 (fun y10 =>
 (some (y10.1, ())))) fuel (a0, a1, (0 : Int), ())))
noncomputable def C71 : Fun := ⟨[(.ro (.slice Y70)), (.ro (.slice Y70))], [(.bool, .z)], fun z => F71 z.1 z.2.1⟩
noncomputable def E71 : Env := ⟨27, tyTab tys, oneTab ones, fnTab [(108, C108)], false, [], [(3, [0, 1], []), (4, [0, 1, 5], []), (5, [0, 1, 5], []), (6, [0, 1, 5], []), (8, [], []), (100000, [], []), (100001, [0, 1, 5], []), (99999, [4], [])], none, [], []⟩
noncomputable def L71 : List (LoopS (Bool × Unit)) := [⟨4, ⟨[(0, (.pv (.slice Y70))), (1, (.pv (.slice Y70))), (5, (.pv (.int .i64)))], []⟩, fun κ => F71_R4 (fun y => κ.exit 0 (SSh.mk' ⟨[], []⟩ y)) (fun y => κ.ret (SSh.mk' ⟨[(4, (.pv .bool))], []⟩ y))⟩]
theorem L71_4 : RoundEq E71 L71 L71[0] (nthLoop (codeOf Tryz.f71) 0) := fun κ N x => by kernel_rfl
theorem C71_ok : QuietOk Tryz.prog 71 C71 := tQ E71 L71 [nthLoop (codeOf Tryz.f71) 0] Tryz.func71 ty_ok (.cons C108_ok .nil) (.cons L71[0] (by kernel_rfl) L71_4 .nil)
noncomputable def F168 (a0 : D187) (a1 : D187) : Option (Bool × Unit) :=
 (cond (!(a0.1 == a1.1))
 (some (false, ()))
 (cond (!(a0.2.1 == a1.2.1))
 (some (false, ()))
 (some (true, ()))))
noncomputable def C168 : Fun := ⟨[(.ro Y187), (.ro Y187)], [(.bool, .z)], fun z => F168 z.1 z.2.1⟩
noncomputable def E168 : Env := ⟨15, tyTab tys, oneTab ones, fnTab [], false, [], [(3, [2, 3], []), (5, [], []), (99999, [4], [])], none, [], []⟩
noncomputable def L168 : List (LoopS (Bool × Unit)) := []
theorem C168_ok : QuietOk Tryz.prog 168 C168 := tQ E168 L168 [] Tryz.func168 ty_ok .nil .nil
noncomputable def F144_R4 (e0_0 : Unit → Option (Bool × Unit)) (er_1 : Bool × Unit → Option (Bool × Unit)) (rec : List (D187) × List (D187) × Int × Unit → Option (Bool × Unit)) (x3 : List (D187) × List (D187) × Int × Unit) : Option (Bool × Unit) :=
 (cond (decide (x3.2.2.1 < (((List.length x3.1) : Nat) : Int)))
 (gd (decide ((0 : Int) ≤ x3.2.2.1))
 (Option.bind x3.1[(Int.toNat x3.2.2.1)]? fun y6 =>
 (gd (decide ((0 : Int) ≤ x3.2.2.1))
 (Option.bind x3.2.1[(Int.toNat x3.2.2.1)]? fun y7 =>
 (Option.bind (F168 y6 y7) fun y8 =>
 (cond (!y8.1)
 (er_1 (false, ()))
 (rec (x3.1, x3.2.1, (IntKind.wrap IntKind.i64 (x3.2.2.1 + (1 : Int))), ()))))))))
 (e0_0 (())))
noncomputable def F144 (a0 : List (D187)) (a1 : List (D187)) : Option (Bool × Unit) :=
 (cond ((((List.length a0) : Nat) : Int) != (((List.length a1) : Nat) : Int))
 (some (false, ()))
 (iter (F144_R4
 (fun y9 =>
 (some (true, ())))
 (fun y10 =>
 (some (y10.1, ())))) fuel (a0, a1, (0 : Int), ())))
noncomputable def C144 : Fun := ⟨[(.ro (.slice Y187)), (.ro (.slice Y187))], [(.bool, .z)], fun z => F144 z.1 z.2.1⟩
noncomputable def E144 : Env := ⟨27, tyTab tys, oneTab ones, fnTab [(168, C168)], false, [], [(3, [0, 1], []), (4, [0, 1, 5], []), (5, [0, 1, 5], []), (6, [0, 1, 5], []), (8, [], []), (100000, [], []), (100001, [0, 1, 5], []), (99999, [4], [])], none, [], []⟩
noncomputable def L144 : List (LoopS (Bool × Unit)) := [⟨4, ⟨[(0, (.pv (.slice Y187))), (1, (.pv (.slice Y187))), (5, (.pv (.int .i64)))], []⟩, fun κ => F144_R4 (fun y => κ.exit 0 (SSh.mk' ⟨[], []⟩ y)) (fun y => κ.ret (SSh.mk' ⟨[(4, (.pv .bool))], []⟩ y))⟩]
theorem L144_4 : RoundEq E144 L144 L144[0] (nthLoop (codeOf Tryz.f144) 0) := fun κ N x => by kernel_rfl
theorem C144_ok : QuietOk Tryz.prog 144 C144 := tQ E144 L144 [nthLoop (codeOf Tryz.f144) 0] Tryz.func144 ty_ok (.cons C168_ok .nil) (.cons L144[0] (by kernel_rfl) L144_4 .nil)
noncomputable def F109 (a0 : D137) (a1 : D137) : Option (Bool × Unit) :=
 (cond (!(a0.1 == a1.1))
 (some (false, ()))
 (Option.bind (F144 a0.2.1 a1.2.1) fun y2 =>
 (cond (!y2.1)
 (some (false, ()))
 (some (true, ())))))
noncomputable def C109 : Fun := ⟨[(.ro Y137), (.ro Y137)], [(.bool, .z)], fun z => F109 z.1 z.2.1⟩
noncomputable def E109 : Env := ⟨16, tyTab tys, oneTab ones, fnTab [(144, C144)], false, [], [(3, [2, 3], []), (5, [], []), (99999, [4], [])], none, [], []⟩
noncomputable def L109 : List (LoopS (Bool × Unit)) := []
theorem C109_ok : QuietOk Tryz.prog 109 C109 := tQ E109 L109 [] Tryz.func109 ty_ok (.cons C144_ok .nil) .nil
noncomputable def F72_R4 (e0_0 : Unit → Option (Bool × Unit)) (er_1 : Bool × Unit → Option (Bool × Unit)) (rec : List (D137) × List (D137) × Int × Unit → Option (Bool × Unit)) (x3 : List (D137) × List (D137) × Int × Unit) : Option (Bool × Unit) :=
 (cond (decide (x3.2.2.1 < (((List.length x3.1) : Nat) : Int)))
 (gd (decide ((0 : Int) ≤ x3.2.2.1))
 (Option.bind x3.1[(Int.toNat x3.2.2.1)]? fun y6 =>
 (gd (decide ((0 : Int) ≤ x3.2.2.1))
 (Option.bind x3.2.1[(Int.toNat x3.2.2.1)]? fun y7 =>
 (Option.bind (F109 y6 y7) fun y8 =>
 (cond (!y8.1)
 (er_1 (false, ()))
 (rec (x3.1, x3.2.1, (IntKind.wrap IntKind.i64 (x3.2.2.1 + (1 : Int))), ()))))))))
 (e0_0 (())))
noncomputable def F72 (a0 : List (D137)) (a1 : List (D137)) : Option (Bool × Unit) :=
 (cond ((((List.length a0) : Nat) : Int) != (((List.length a1) : Nat) : Int))
 (some (false, ()))
 (iter (F72_R4
 (fun y9 =>
 (some (true, ())))
 (fun y10 =>
 (some (y10.1, ())))) fuel (a0, a1, (0 : Int), ())))
noncomputable def C72 : Fun := ⟨[(.ro (.slice Y137)), (.ro (.slice Y137))], [(.bool, .z)], fun z => F72 z.1 z.2.1⟩
noncomputable def E72 : Env := ⟨27, tyTab tys, oneTab ones, fnTab [(109, C109)], false, [], [(3, [0, 1], []), (4, [0, 1, 5], []), (5, [0, 1, 5], []), (6, [0, 1, 5], []), (8, [], []), (100000, [], []), (100001, [0, 1, 5], []), (99999, [4], [])], none, [], []⟩
noncomputable def L72 : List (LoopS (Bool × Unit)) := [⟨4, ⟨[(0, (.pv (.slice Y137))), (1, (.pv (.slice Y137))), (5, (.pv (.int .i64)))], []⟩, fun κ => F72_R4 (fun y => κ.exit 0 (SSh.mk' ⟨[], []⟩ y)) (fun y => κ.ret (SSh.mk' ⟨[(4, (.pv .bool))], []⟩ y))⟩]
theorem L72_4 : RoundEq E72 L72 L72[0] (nthLoop (codeOf Tryz.f72) 0) := fun κ N x => by kernel_rfl
theorem C72_ok : QuietOk Tryz.prog 72 C72 := tQ E72 L72 [nthLoop (codeOf Tryz.f72) 0] Tryz.func72 ty_ok (.cons C109_ok .nil) (.cons L72[0] (by kernel_rfl) L72_4 .nil)
noncomputable def F44 (a0 : D51) (a1 : D51) : Option (Bool × Unit) :=
 (cond (!(a0.1 == a1.1))
 (some (false, ()))
 (Option.bind (F71 a0.2.1 a1.2.1) fun y2 =>
 (cond (!y2.1)
 (some (false, ()))
 (Option.bind (F72 a0.2.2.1 a1.2.2.1) fun y4 =>
 (cond (!y4.1)
 (some (false, ()))
 (some (true, ())))))))
noncomputable def C44 : Fun := ⟨[(.ro Y51), (.ro Y51)], [(.bool, .z)], fun z => F44 z.1 z.2.1⟩
noncomputable def E44 : Env := ⟨22, tyTab tys, oneTab ones, fnTab [(71, C71), (72, C72)], false, [], [(3, [2, 3], []), (5, [2, 3], []), (7, [], []), (99999, [4], [])], none, [], []⟩
noncomputable def L44 : List (LoopS (Bool × Unit)) := []
theorem C44_ok : QuietOk Tryz.prog 44 C44 := tQ E44 L44 [] Tryz.func44 ty_ok (.cons C71_ok (.cons C72_ok .nil)) .nil
noncomputable def F19_R4 (e0_0 : Unit → Option (Bool × Unit)) (er_1 : Bool × Unit → Option (Bool × Unit)) (rec : List (D51) × List (D51) × Int × Unit → Option (Bool × Unit)) (x3 : List (D51) × List (D51) × Int × Unit) : Option (Bool × Unit) :=
 (cond (decide (x3.2.2.1 < (((List.length x3.1) : Nat) : Int)))
 (gd (decide ((0 : Int) ≤ x3.2.2.1))
 (Option.bind x3.1[(Int.toNat x3.2.2.1)]? fun y6 =>
 (gd (decide ((0 : Int) ≤ x3.2.2.1))
 (Option.bind x3.2.1[(Int.toNat x3.2.2.1)]? fun y7 =>
 (Option.bind (F44 y6 y7) fun y8 =>
 (cond (!y8.1)
 (er_1 (false, ()))
 (rec (x3.1, x3.2.1, (IntKind.wrap IntKind.i64 (x3.2.2.1 + (1 : Int))), ()))))))))
 (e0_0 (())))
noncomputable def F19 (a0 : List (D51)) (a1 : List (D51)) : Option (Bool × Unit) :=
 (cond ((((List.length a0) : Nat) : Int) != (((List.length a1) : Nat) : Int))
 (some (false, ()))
 (iter (F19_R4
 (fun y9 =>
 (some (true, ())))
 (fun y10 =>
 (some (y10.1, ())))) fuel (a0, a1, (0 : Int), ())))
noncomputable def C19 : Fun := ⟨[(.ro (.slice Y51)), (.ro (.slice Y51))], [(.bool, .z)], fun z => F19 z.1 z.2.1⟩
noncomputable def E19 : Env := ⟨27, tyTab tys, oneTab ones, fnTab [(44, C44)], false, [], [(3, [0, 1], []), (4, [0, 1, 5], []), (5, [0, 1, 5], []), (6, [0, 1, 5], []), (8, [], []), (100000, [], []), (100001, [0, 1, 5], []), (99999, [4], [])], none, [], []⟩
noncomputable def L19 : List (LoopS (Bool × Unit)) := [⟨4, ⟨[(0, (.pv (.slice Y51))), (1, (.pv (.slice Y51))), (5, (.pv (.int .i64)))], []⟩, fun κ => F19_R4 (fun y => κ.exit 0 (SSh.mk' ⟨[], []⟩ y)) (fun y => κ.ret (SSh.mk' ⟨[(4, (.pv .bool))], []⟩ y))⟩]
theorem L19_4 : RoundEq E19 L19 L19[0] (nthLoop (codeOf Tryz.f19) 0) := fun κ N x => by kernel_rfl
theorem C19_ok : QuietOk Tryz.prog 19 C19 := tQ E19 L19 [nthLoop (codeOf Tryz.f19) 0] Tryz.func19 ty_ok (.cons C44_ok .nil) (.cons L19[0] (by kernel_rfl) L19_4 .nil)
noncomputable def F215 (a0 : D195) (a1 : D195) : Option (Bool × Unit) :=
 (cond (a0.1 != a1.1)
 (some (false, ()))
 (cond (!(a0.2.1 == a1.2.1))
 (some (false, ()))
 (Option.bind (F146 a0.2.2.1 a1.2.2.1) fun y3 =>
 (cond (!y3.1)
 (some (false, ()))
 (some (true, ()))))))
noncomputable def C215 : Fun := ⟨[(.ro Y195), (.ro Y195)], [(.bool, .z)], fun z => F215 z.1 z.2.1⟩
noncomputable def E215 : Env := ⟨21, tyTab tys, oneTab ones, fnTab [(146, C146)], false, [], [(3, [2, 3], []), (5, [2, 3], []), (7, [], []), (99999, [4], [])], none, [], []⟩
noncomputable def L215 : List (LoopS (Bool × Unit)) := []
theorem C215_ok : QuietOk Tryz.prog 215 C215 := tQ E215 L215 [] Tryz.func215 ty_ok (.cons C146_ok .nil) .nil
noncomputable def F199_R4 (e0_0 : Unit → Option (Bool × Unit)) (er_1 : Bool × Unit → Option (Bool × Unit)) (rec : List (D195) × List (D195) × Int × Unit → Option (Bool × Unit)) (x3 : List (D195) × List (D195) × Int × Unit) : Option (Bool × Unit) :=
 (cond (decide (x3.2.2.1 < (((List.length x3.1) : Nat) : Int)))
 (gd (decide ((0 : Int) ≤ x3.2.2.1))
 (Option.bind x3.1[(Int.toNat x3.2.2.1)]? fun y6 =>
 (gd (decide ((0 : Int) ≤ x3.2.2.1))
 (Option.bind x3.2.1[(Int.toNat x3.2.2.1)]? fun y7 =>
 (Option.bind (F215 y6 y7) fun y8 =>
 (cond (!y8.1)
 (er_1 (false, ()))
 (rec (x3.1, x3.2.1, (IntKind.wrap IntKind.i64 (x3.2.2.1 + (1 : Int))), ()))))))))
 (e0_0 (())))
noncomputable def F199 (a0 : List (D195)) (a1 : List (D195)) : Option (Bool × Unit) :=
 (cond ((((List.length a0) : Nat) : Int) != (((List.length a1) : Nat) : Int))
 (some (false, ()))
 (iter (F199_R4
 (fun y9 =>
 (some (true, ())))
 (fun y10 =>
 (some (y10.1, ())))) fuel (a0, a1, (0 : Int), ())))
noncomputable def C199 : Fun := ⟨[(.ro (.slice Y195)), (.ro (.slice Y195))], [(.bool, .z)], fun z => F199 z.1 z.2.1⟩
noncomputable def E199 : Env := ⟨27, tyTab tys, oneTab ones, fnTab [(215, C215)], false, [], [(3, [0, 1], []), (4, [0, 1, 5], []), (5, [0, 1, 5], []), (6, [0, 1, 5], []), (8, [], []), (100000, [], []), (100001, [0, 1, 5], []), (99999, [4], [])], none, [], []⟩
noncomputable def L199 : List (LoopS (Bool × Unit)) := [⟨4, ⟨[(0, (.pv (.slice Y195))), (1, (.pv (.slice Y195))), (5, (.pv (.int .i64)))], []⟩, fun κ => F199_R4 (fun y => κ.exit 0 (SSh.mk' ⟨[], []⟩ y)) (fun y => κ.ret (SSh.mk' ⟨[(4, (.pv .bool))], []⟩ y))⟩]
theorem L199_4 : RoundEq E199 L199 L199[0] (nthLoop (codeOf Tryz.f199) 0) := fun κ N x => by kernel_rfl
theorem C199_ok : QuietOk Tryz.prog 199 C199 := tQ E199 L199 [nthLoop (codeOf Tryz.f199) 0] Tryz.func199 ty_ok (.cons C215_ok .nil) (.cons L199[0] (by kernel_rfl) L199_4 .nil)
noncomputable def F187 (a0 : D192) (a1 : D192) : Option (Bool × Unit) :=
 (Option.bind (F199 a0.1 a1.1) fun y1 =>
 (cond (!y1.1)
 (some (false, ()))
 (some (true, ()))))
noncomputable def C187 : Fun := ⟨[(.ro Y192), (.ro Y192)], [(.bool, .z)], fun z => F187 z.1 z.2.1⟩
noncomputable def E187 : Env := ⟨11, tyTab tys, oneTab ones, fnTab [(199, C199)], false, [], [(3, [], []), (99999, [4], [])], none, [], []⟩
noncomputable def L187 : List (LoopS (Bool × Unit)) := []
theorem C187_ok : QuietOk Tryz.prog 187 C187 := tQ E187 L187 [] Tryz.func187 ty_ok (.cons C199_ok .nil) .nil
noncomputable def F169_R4 (e0_0 : Unit → Option (Bool × Unit)) (er_1 : Bool × Unit → Option (Bool × Unit)) (rec : List (D192) × List (D192) × Int × Unit → Option (Bool × Unit)) (x3 : List (D192) × List (D192) × Int × Unit) : Option (Bool × Unit) :=
 (cond (decide (x3.2.2.1 < (((List.length x3.1) : Nat) : Int)))
 (gd (decide ((0 : Int) ≤ x3.2.2.1))
 (Option.bind x3.1[(Int.toNat x3.2.2.1)]? fun y6 =>
 (gd (decide ((0 : Int) ≤ x3.2.2.1))
 (Option.bind x3.2.1[(Int.toNat x3.2.2.1)]? fun y7 =>
 (Option.bind (F187 y6 y7) fun y8 =>
 (cond (!y8.1)
 (er_1 (false, ()))
 (rec (x3.1, x3.2.1, (IntKind.wrap IntKind.i64 (x3.2.2.1 + (1 : Int))), ()))))))))
 (e0_0 (())))
noncomputable def F169 (a0 : List (D192)) (a1 : List (D192)) : Option (Bool × Unit) :=
 (cond ((((List.length a0) : Nat) : Int) != (((List.length a1) : Nat) : Int))
 (some (false, ()))
 (iter (F169_R4
 (fun y9 =>
 (some (true, ())))
 (fun y10 =>
 (some (y10.1, ())))) fuel (a0, a1, (0 : Int), ())))
noncomputable def C169 : Fun := ⟨[(.ro (.slice Y192)), (.ro (.slice Y192))], [(.bool, .z)], fun z => F169 z.1 z.2.1⟩
noncomputable def E169 : Env := ⟨27, tyTab tys, oneTab ones, fnTab [(187, C187)], false, [], [(3, [0, 1], []), (4, [0, 1, 5], []), (5, [0, 1, 5], []), (6, [0, 1, 5], []), (8, [], []), (100000, [], []), (100001, [0, 1, 5], []), (99999, [4], [])], none, [], []⟩
noncomputable def L169 : List (LoopS (Bool × Unit)) := [⟨4, ⟨[(0, (.pv (.slice Y192))), (1, (.pv (.slice Y192))), (5, (.pv (.int .i64)))], []⟩, fun κ => F169_R4 (fun y => κ.exit 0 (SSh.mk' ⟨[], []⟩ y)) (fun y => κ.ret (SSh.mk' ⟨[(4, (.pv .bool))], []⟩ y))⟩]
theorem L169_4 : RoundEq E169 L169 L169[0] (nthLoop (codeOf Tryz.f169) 0) := fun κ N x => by kernel_rfl
theorem C169_ok : QuietOk Tryz.prog 169 C169 := tQ E169 L169 [nthLoop (codeOf Tryz.f169) 0] Tryz.func169 ty_ok (.cons C187_ok .nil) (.cons L169[0] (by kernel_rfl) L169_4 .nil)
end Go.V
