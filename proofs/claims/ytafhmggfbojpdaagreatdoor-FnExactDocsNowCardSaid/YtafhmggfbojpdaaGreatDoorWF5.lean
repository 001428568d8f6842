/- What functions of the program compute, printed by a program of ours. No condition. -/
import Derived.Test.YtafhmggfbojpdaaGreatDoorWF4
namespace Go.V
open Go.Proofs
set_option maxRecDepth 100000
set_option linter.unusedVariables false
noncomputable def F134 (a0 : D101) (a1 : D101) : Option (Bool × Unit) :=
 (cond (!(a0.1 == a1.1))
 (some (false, ()))
 (cond (a0.2.1 != a1.2.1)
 (some (false, ()))
 (cond (!(a0.2.2.1 == a1.2.2.1))
 (some (false, ()))
 (Option.bind (F39 a0.2.2.2.1 a1.2.2.2.1) fun y4 =>
 (cond (!y4.1)
 (some (false, ()))
 (some (true, ())))))))
noncomputable def C134 : Fun := ⟨[(.ro Y101), (.ro Y101)], [(.bool, .z)], fun z => F134 z.1 z.2.1⟩
noncomputable def E134 : Env := ⟨26, tyTab tys, oneTab ones, fnTab [(39, C39)], false, [], [(3, [2, 3], []), (5, [2, 3], []), (7, [2, 3], []), (9, [], []), (99999, [4], [])], none, [], []⟩
noncomputable def L134 : List (LoopS (Bool × Unit)) := []
theorem C134_ok : QuietOk Tryz.prog 134 C134 := tQ E134 L134 [] Tryz.func134 ty_ok (.cons C39_ok .nil) .nil
noncomputable def F96_R4 (e0_0 : Unit → Option (Bool × Unit)) (er_1 : Bool × Unit → Option (Bool × Unit)) (rec : List (D101) × List (D101) × Int × Unit → Option (Bool × Unit)) (x3 : List (D101) × List (D101) × Int × Unit) : Option (Bool × Unit) :=
 (cond (decide (x3.2.2.1 < (((List.length x3.1) : Nat) : Int)))
 (gd (decide ((0 : Int) ≤ x3.2.2.1))
 (Option.bind x3.1[(Int.toNat x3.2.2.1)]? fun y6 =>
 (gd (decide ((0 : Int) ≤ x3.2.2.1))
 (Option.bind x3.2.1[(Int.toNat x3.2.2.1)]? fun y7 =>
 (Option.bind (F134 y6 y7) fun y8 =>
 (cond (!y8.1)
 (er_1 (false, ()))
 (rec (x3.1, x3.2.1, (IntKind.wrap IntKind.i64 (x3.2.2.1 + (1 : Int))), ()))))))))
 (e0_0 (())))
noncomputable def F96 (a0 : List (D101)) (a1 : List (D101)) : Option (Bool × Unit) :=
 (cond ((((List.length a0) : Nat) : Int) != (((List.length a1) : Nat) : Int))
 (some (false, ()))
 (iter (F96_R4
 (fun y9 =>
 (some (true, ())))
 (fun y10 =>
 (some (y10.1, ())))) fuel (a0, a1, (0 : Int), ())))
noncomputable def C96 : Fun := ⟨[(.ro (.slice Y101)), (.ro (.slice Y101))], [(.bool, .z)], fun z => F96 z.1 z.2.1⟩
noncomputable def E96 : Env := ⟨27, tyTab tys, oneTab ones, fnTab [(134, C134)], false, [], [(3, [0, 1], []), (4, [0, 1, 5], []), (5, [0, 1, 5], []), (6, [0, 1, 5], []), (8, [], []), (100000, [], []), (100001, [0, 1, 5], []), (99999, [4], [])], none, [], []⟩
noncomputable def L96 : List (LoopS (Bool × Unit)) := [⟨4, ⟨[(0, (.pv (.slice Y101))), (1, (.pv (.slice Y101))), (5, (.pv (.int .i64)))], []⟩, fun κ => F96_R4 (fun y => κ.exit 0 (SSh.mk' ⟨[], []⟩ y)) (fun y => κ.ret (SSh.mk' ⟨[(4, (.pv .bool))], []⟩ y))⟩]
theorem L96_4 : RoundEq E96 L96 L96[0] (nthLoop (codeOf Tryz.f96) 0) := fun κ N x => by kernel_rfl
theorem C96_ok : QuietOk Tryz.prog 96 C96 := tQ E96 L96 [nthLoop (codeOf Tryz.f96) 0] Tryz.func96 ty_ok (.cons C134_ok .nil) (.cons L96[0] (by kernel_rfl) L96_4 .nil)
noncomputable def F60 (a0 : D85) (a1 : D85) : Option (Bool × Unit) :=
 (cond (a0.1 != a1.1)
 (some (false, ()))
 (cond (a0.2.1 != a1.2.1)
 (some (false, ()))
 (Option.bind (F95 a0.2.2.1 a1.2.2.1) fun y3 =>
 (cond (!y3.1)
 (some (false, ()))
 (Option.bind (F96 a0.2.2.2.1 a1.2.2.2.1) fun y5 =>
 (cond (!y5.1)
 (some (false, ()))
 (some (true, ()))))))))
noncomputable def C60 : Fun := ⟨[(.ro Y85), (.ro Y85)], [(.bool, .z)], fun z => F60 z.1 z.2.1⟩
noncomputable def E60 : Env := ⟨27, tyTab tys, oneTab ones, fnTab [(95, C95), (96, C96)], false, [], [(3, [2, 3], []), (5, [2, 3], []), (7, [2, 3], []), (9, [], []), (99999, [4], [])], none, [], []⟩
noncomputable def L60 : List (LoopS (Bool × Unit)) := []
theorem C60_ok : QuietOk Tryz.prog 60 C60 := tQ E60 L60 [] Tryz.func60 ty_ok (.cons C95_ok (.cons C96_ok .nil)) .nil
noncomputable def F31_R4 (e0_0 : Unit → Option (Bool × Unit)) (er_1 : Bool × Unit → Option (Bool × Unit)) (rec : List (D85) × List (D85) × Int × Unit → Option (Bool × Unit)) (x3 : List (D85) × List (D85) × Int × Unit) : Option (Bool × Unit) :=
 (cond (decide (x3.2.2.1 < (((List.length x3.1) : Nat) : Int)))
 (gd (decide ((0 : Int) ≤ x3.2.2.1))
 (Option.bind x3.1[(Int.toNat x3.2.2.1)]? fun y6 =>
 (gd (decide ((0 : Int) ≤ x3.2.2.1))
 (Option.bind x3.2.1[(Int.toNat x3.2.2.1)]? fun y7 =>
 (Option.bind (F60 y6 y7) fun y8 =>
 (cond (!y8.1)
 (er_1 (false, ()))
 (rec (x3.1, x3.2.1, (IntKind.wrap IntKind.i64 (x3.2.2.1 + (1 : Int))), ()))))))))
 (e0_0 (())))
noncomputable def F31 (a0 : List (D85)) (a1 : List (D85)) : Option (Bool × Unit) :=
 (cond ((((List.length a0) : Nat) : Int) != (((List.length a1) : Nat) : Int))
 (some (false, ()))
 (iter (F31_R4
 (fun y9 =>
 (some (true, ())))
 (fun y10 =>
 (some (y10.1, ())))) fuel (a0, a1, (0 : Int), ())))
noncomputable def C31 : Fun := ⟨[(.ro (.slice Y85)), (.ro (.slice Y85))], [(.bool, .z)], fun z => F31 z.1 z.2.1⟩
noncomputable def E31 : Env := ⟨27, tyTab tys, oneTab ones, fnTab [(60, C60)], false, [], [(3, [0, 1], []), (4, [0, 1, 5], []), (5, [0, 1, 5], []), (6, [0, 1, 5], []), (8, [], []), (100000, [], []), (100001, [0, 1, 5], []), (99999, [4], [])], none, [], []⟩
noncomputable def L31 : List (LoopS (Bool × Unit)) := [⟨4, ⟨[(0, (.pv (.slice Y85))), (1, (.pv (.slice Y85))), (5, (.pv (.int .i64)))], []⟩, fun κ => F31_R4 (fun y => κ.exit 0 (SSh.mk' ⟨[], []⟩ y)) (fun y => κ.ret (SSh.mk' ⟨[(4, (.pv .bool))], []⟩ y))⟩]
theorem L31_4 : RoundEq E31 L31 L31[0] (nthLoop (codeOf Tryz.f31) 0) := fun κ N x => by kernel_rfl
theorem C31_ok : QuietOk Tryz.prog 31 C31 := tQ E31 L31 [nthLoop (codeOf Tryz.f31) 0] Tryz.func31 ty_ok (.cons C60_ok .nil) (.cons L31[0] (by kernel_rfl) L31_4 .nil)
noncomputable def F135 (a0 : D162) (a1 : D162) : Option (Bool × Unit) :=
 (Option.bind (F134 a0.1 a1.1) fun y1 =>
 (cond (!y1.1)
 (some (false, ()))
 (Option.bind (F39 a0.2.1 a1.2.1) fun y3 =>
 (cond (!y3.1)
 (some (false, ()))
 (cond (!(a0.2.2.1 == a1.2.2.1))
 (some (false, ()))
 (some (true, ())))))))
noncomputable def C135 : Fun := ⟨[(.ro Y162), (.ro Y162)], [(.bool, .z)], fun z => F135 z.1 z.2.1⟩
noncomputable def E135 : Env := ⟨22, tyTab tys, oneTab ones, fnTab [(39, C39), (134, C134)], false, [], [(3, [2, 3], []), (5, [2, 3], []), (7, [], []), (99999, [4], [])], none, [], []⟩
noncomputable def L135 : List (LoopS (Bool × Unit)) := []
theorem C135_ok : QuietOk Tryz.prog 135 C135 := tQ E135 L135 [] Tryz.func135 ty_ok (.cons C39_ok (.cons C134_ok .nil)) .nil
noncomputable def F97_R4 (e0_0 : Unit → Option (Bool × Unit)) (er_1 : Bool × Unit → Option (Bool × Unit)) (rec : List (D162) × List (D162) × Int × Unit → Option (Bool × Unit)) (x3 : List (D162) × List (D162) × Int × Unit) : Option (Bool × Unit) :=
 (cond (decide (x3.2.2.1 < (((List.length x3.1) : Nat) : Int)))
 (gd (decide ((0 : Int) ≤ x3.2.2.1))
 (Option.bind x3.1[(Int.toNat x3.2.2.1)]? fun y6 =>
 (gd (decide ((0 : Int) ≤ x3.2.2.1))
 (Option.bind x3.2.1[(Int.toNat x3.2.2.1)]? fun y7 =>
 (Option.bind (F135 y6 y7) fun y8 =>
 (cond (!y8.1)
 (er_1 (false, ()))
 (rec (x3.1, x3.2.1, (IntKind.wrap IntKind.i64 (x3.2.2.1 + (1 : Int))), ()))))))))
 (e0_0 (())))
noncomputable def F97 (a0 : List (D162)) (a1 : List (D162)) : Option (Bool × Unit) :=
 (cond ((((List.length a0) : Nat) : Int) != (((List.length a1) : Nat) : Int))
 (some (false, ()))
 (iter (F97_R4
 (fun y9 =>
 (some (true, ())))
 (fun y10 =>
 (some (y10.1, ())))) fuel (a0, a1, (0 : Int), ())))
noncomputable def C97 : Fun := ⟨[(.ro (.slice Y162)), (.ro (.slice Y162))], [(.bool, .z)], fun z => F97 z.1 z.2.1⟩
noncomputable def E97 : Env := ⟨27, tyTab tys, oneTab ones, fnTab [(135, C135)], false, [], [(3, [0, 1], []), (4, [0, 1, 5], []), (5, [0, 1, 5], []), (6, [0, 1, 5], []), (8, [], []), (100000, [], []), (100001, [0, 1, 5], []), (99999, [4], [])], none, [], []⟩
noncomputable def L97 : List (LoopS (Bool × Unit)) := [⟨4, ⟨[(0, (.pv (.slice Y162))), (1, (.pv (.slice Y162))), (5, (.pv (.int .i64)))], []⟩, fun κ => F97_R4 (fun y => κ.exit 0 (SSh.mk' ⟨[], []⟩ y)) (fun y => κ.ret (SSh.mk' ⟨[(4, (.pv .bool))], []⟩ y))⟩]
theorem L97_4 : RoundEq E97 L97 L97[0] (nthLoop (codeOf Tryz.f97) 0) := fun κ N x => by kernel_rfl
theorem C97_ok : QuietOk Tryz.prog 97 C97 := tQ E97 L97 [nthLoop (codeOf Tryz.f97) 0] Tryz.func97 ty_ok (.cons C135_ok .nil) (.cons L97[0] (by kernel_rfl) L97_4 .nil)
noncomputable def F61 (a0 : D89) (a1 : D89) : Option (Bool × Unit) :=
 (cond (a0.1 != a1.1)
 (some (false, ()))
 (cond (a0.2.1 != a1.2.1)
 (some (false, ()))
 (Option.bind (F95 a0.2.2.1 a1.2.2.1) fun y3 =>
 (cond (!y3.1)
 (some (false, ()))
 (Option.bind (F97 a0.2.2.2.1 a1.2.2.2.1) fun y5 =>
 (cond (!y5.1)
 (some (false, ()))
 (cond (!(a0.2.2.2.2.1 == a1.2.2.2.2.1))
 (some (false, ()))
 (cond (!(a0.2.2.2.2.2.1 == a1.2.2.2.2.2.1))
 (some (false, ()))
 (some (true, ()))))))))))
noncomputable def C61 : Fun := ⟨[(.ro Y89), (.ro Y89)], [(.bool, .z)], fun z => F61 z.1 z.2.1⟩
noncomputable def E61 : Env := ⟨37, tyTab tys, oneTab ones, fnTab [(95, C95), (97, C97)], false, [], [(3, [2, 3], []), (5, [2, 3], []), (7, [2, 3], []), (9, [2, 3], []), (11, [2, 3], []), (13, [], []), (99999, [4], [])], none, [], []⟩
noncomputable def L61 : List (LoopS (Bool × Unit)) := []
theorem C61_ok : QuietOk Tryz.prog 61 C61 := tQ E61 L61 [] Tryz.func61 ty_ok (.cons C95_ok (.cons C97_ok .nil)) .nil
noncomputable def F32_R4 (e0_0 : Unit → Option (Bool × Unit)) (er_1 : Bool × Unit → Option (Bool × Unit)) (rec : List (D89) × List (D89) × Int × Unit → Option (Bool × Unit)) (x3 : List (D89) × List (D89) × Int × Unit) : Option (Bool × Unit) :=
 (cond (decide (x3.2.2.1 < (((List.length x3.1) : Nat) : Int)))
 (gd (decide ((0 : Int) ≤ x3.2.2.1))
 (Option.bind x3.1[(Int.toNat x3.2.2.1)]? fun y6 =>
 (gd (decide ((0 : Int) ≤ x3.2.2.1))
 (Option.bind x3.2.1[(Int.toNat x3.2.2.1)]? fun y7 =>
 (Option.bind (F61 y6 y7) fun y8 =>
 (cond (!y8.1)
 (er_1 (false, ()))
 (rec (x3.1, x3.2.1, (IntKind.wrap IntKind.i64 (x3.2.2.1 + (1 : Int))), ()))))))))
 (e0_0 (())))
noncomputable def F32 (a0 : List (D89)) (a1 : List (D89)) : Option (Bool × Unit) :=
 (cond ((((List.length a0) : Nat) : Int) != (((List.length a1) : Nat) : Int))
 (some (false, ()))
 (iter (F32_R4
 (fun y9 =>
 (some (true, ())))
 (fun y10 =>
 (some (y10.1, ())))) fuel (a0, a1, (0 : Int), ())))
noncomputable def C32 : Fun := ⟨[(.ro (.slice Y89)), (.ro (.slice Y89))], [(.bool, .z)], fun z => F32 z.1 z.2.1⟩
noncomputable def E32 : Env := ⟨27, tyTab tys, oneTab ones, fnTab [(61, C61)], false, [], [(3, [0, 1], []), (4, [0, 1, 5], []), (5, [0, 1, 5], []), (6, [0, 1, 5], []), (8, [], []), (100000, [], []), (100001, [0, 1, 5], []), (99999, [4], [])], none, [], []⟩
noncomputable def L32 : List (LoopS (Bool × Unit)) := [⟨4, ⟨[(0, (.pv (.slice Y89))), (1, (.pv (.slice Y89))), (5, (.pv (.int .i64)))], []⟩, fun κ => F32_R4 (fun y => κ.exit 0 (SSh.mk' ⟨[], []⟩ y)) (fun y => κ.ret (SSh.mk' ⟨[(4, (.pv .bool))], []⟩ y))⟩]
theorem L32_4 : RoundEq E32 L32 L32[0] (nthLoop (codeOf Tryz.f32) 0) := fun κ N x => by kernel_rfl
theorem C32_ok : QuietOk Tryz.prog 32 C32 := tQ E32 L32 [nthLoop (codeOf Tryz.f32) 0] Tryz.func32 ty_ok (.cons C61_ok .nil) (.cons L32[0] (by kernel_rfl) L32_4 .nil)
noncomputable def F10 (a0 : D25) (a1 : D25) : Option (Bool × Unit) :=
 (Option.bind (F30 a0.1 a1.1) fun y1 =>
 (cond (!y1.1)
 (some (false, ()))
 (Option.bind (F31 a0.2.1 a1.2.1) fun y3 =>
 (cond (!y3.1)
 (some (false, ()))
 (Option.bind (F32 a0.2.2.1 a1.2.2.1) fun y5 =>
 (cond (!y5.1)
 (some (false, ()))
 (cond (a0.2.2.2.1 != a1.2.2.2.1)
 (some (false, ()))
 (some (true, ())))))))))
noncomputable def C10 : Fun := ⟨[(.ro Y25), (.ro Y25)], [(.bool, .z)], fun z => F10 z.1 z.2.1⟩
noncomputable def E10 : Env := ⟨28, tyTab tys, oneTab ones, fnTab [(30, C30), (31, C31), (32, C32)], false, [], [(3, [2, 3], []), (5, [2, 3], []), (7, [2, 3], []), (9, [], []), (99999, [4], [])], none, [], []⟩
noncomputable def L10 : List (LoopS (Bool × Unit)) := []
theorem C10_ok : QuietOk Tryz.prog 10 C10 := tQ E10 L10 [] Tryz.func10 ty_ok (.cons C30_ok (.cons C31_ok (.cons C32_ok .nil))) .nil
noncomputable def F40_R4 (e0_0 : List UInt8 × Unit → Option (List UInt8 × Unit)) (rec : Int × List UInt8 × Unit → Option (List UInt8 × Unit)) (x3 : Int × List UInt8 × Unit) : Option (List UInt8 × Unit) :=
 (cond (decide (x3.1 > (0 : Int)))
 (gd (decide (((List.length (List.map (fun (v8 : Int) => (UInt8.ofNat (Int.toNat v8))) [(IntKind.wrap IntKind.u8 (IntKind.wrap IntKind.i64 ((48 : Int) + (Int.tmod x3.1 (10 : Int)))))])) + (List.length x3.2.1)) ≤ 9223372036854775807))
 (rec ((IntKind.wrap IntKind.i64 (Int.tdiv x3.1 (10 : Int))), ((List.map (fun (v8 : Int) => (UInt8.ofNat (Int.toNat v8))) [(IntKind.wrap IntKind.u8 (IntKind.wrap IntKind.i64 ((48 : Int) + (Int.tmod x3.1 (10 : Int)))))]) ++ x3.2.1), ())))
 (e0_0 (x3.2.1, ())))
noncomputable def F40 (a0 : Int) : Option (List UInt8 × Unit) :=
 (cond (decide (a0 ≤ (0 : Int)))
 (some ([(109 : UInt8), (48 : UInt8)], ()))
 (iter (F40_R4
 (fun y5 =>
 (gd (decide (((List.length ([(109 : UInt8)] : List UInt8)) + (List.length y5.1)) ≤ 9223372036854775807))
 (some (([(109 : UInt8)] ++ y5.1), ()))))) fuel (a0, [], ())))
noncomputable def C40 : Fun := ⟨[(.ro (.int .i64))], [(.str, .z)], fun z => F40 z.1⟩
noncomputable def E40 : Env := ⟨20, tyTab tys, oneTab ones, fnTab [], false, [], [(3, [0], []), (4, [0, 3], []), (5, [0, 3], []), (7, [3], []), (100000, [3], []), (100001, [0, 3], []), (99999, [2], [])], none, [], []⟩
noncomputable def L40 : List (LoopS (List UInt8 × Unit)) := [⟨4, ⟨[(0, (.pv (.int .i64))), (3, (.pv .str))], []⟩, fun κ => F40_R4 (fun y => κ.exit 0 (SSh.mk' ⟨[(3, (.pv .str))], []⟩ y))⟩]
theorem L40_4 : RoundEq E40 L40 L40[0] (nthLoop (codeOf Tryz.f40) 0) := fun κ N x => by kernel_rfl
theorem C40_ok : QuietOk Tryz.prog 40 C40 := tQ E40 L40 [nthLoop (codeOf Tryz.f40) 0] Tryz.func40 ty_ok .nil (.cons L40[0] (by kernel_rfl) L40_4 .nil)
noncomputable def F98_R2 (e0_0 : Int × List (D94) × Unit → Option (Int × List (D94) × Unit)) (rec : Int × Int × List (D94) × Unit → Option (Int × List (D94) × Unit)) (x2 : Int × Int × List (D94) × Unit) : Option (Int × List (D94) × Unit) :=
 (cond (decide (x2.2.1 < (((List.length x2.2.2.1) : Nat) : Int)))
 (gd (decide ((0 : Int) ≤ x2.2.1))
 (gd (decide (x2.2.1 < (((List.length x2.2.2.1) : Nat) : Int)))
 (Option.bind x2.2.2.1[(Int.toNat x2.2.1)]? fun y4 =>
 (gd (decide ((0 : Int) ≤ x2.2.1))
 (gd (decide (x2.2.1 < (((List.length (List.set x2.2.2.1 (Int.toNat x2.2.1) (x2.1, y4.2))) : Nat) : Int)))
 (Option.bind (List.set x2.2.2.1 (Int.toNat x2.2.1) (x2.1, y4.2))[(Int.toNat x2.2.1)]? fun y5 =>
 (gd (decide ((0 : Int) ≤ x2.2.1))
 (gd (decide (x2.2.1 < (((List.length (List.set (List.set x2.2.2.1 (Int.toNat x2.2.1) (x2.1, y4.2)) (Int.toNat x2.2.1) (y5.1, (((Int.tmod (IntKind.wrap IntKind.i64 (x2.1 + (1 : Int))) (3 : Int)) == (0 : Int)), y5.2.2)))) : Nat) : Int)))
 (Option.bind (List.set (List.set x2.2.2.1 (Int.toNat x2.2.1) (x2.1, y4.2)) (Int.toNat x2.2.1) (y5.1, (((Int.tmod (IntKind.wrap IntKind.i64 (x2.1 + (1 : Int))) (3 : Int)) == (0 : Int)), y5.2.2)))[(Int.toNat x2.2.1)]? fun y6 =>
 (gd (decide ((0 : Int) ≤ x2.2.1))
 (gd (decide (x2.2.1 < (((List.length (List.set (List.set (List.set x2.2.2.1 (Int.toNat x2.2.1) (x2.1, y4.2)) (Int.toNat x2.2.1) (y5.1, (((Int.tmod (IntKind.wrap IntKind.i64 (x2.1 + (1 : Int))) (3 : Int)) == (0 : Int)), y5.2.2))) (Int.toNat x2.2.1) (y6.1, (y6.2.1, (((IntKind.wrap IntKind.i64 ((IntKind.wrap IntKind.i64 (x2.1 + (1 : Int))) + (1 : Int))), y6.2.2.1.2), y6.2.2.2))))) : Nat) : Int)))
 (Option.bind (List.set (List.set (List.set x2.2.2.1 (Int.toNat x2.2.1) (x2.1, y4.2)) (Int.toNat x2.2.1) (y5.1, (((Int.tmod (IntKind.wrap IntKind.i64 (x2.1 + (1 : Int))) (3 : Int)) == (0 : Int)), y5.2.2))) (Int.toNat x2.2.1) (y6.1, (y6.2.1, (((IntKind.wrap IntKind.i64 ((IntKind.wrap IntKind.i64 (x2.1 + (1 : Int))) + (1 : Int))), y6.2.2.1.2), y6.2.2.2))))[(Int.toNat x2.2.1)]? fun y7 =>
 (Option.bind (F40 (IntKind.wrap IntKind.i64 ((IntKind.wrap IntKind.i64 ((IntKind.wrap IntKind.i64 ((IntKind.wrap IntKind.i64 (x2.1 + (1 : Int))) + (1 : Int))) + (1 : Int))) + (1 : Int)))) fun y8 =>
 (gd (decide ((0 : Int) ≤ x2.2.1))
 (gd (decide (x2.2.1 < (((List.length (List.set (List.set (List.set (List.set x2.2.2.1 (Int.toNat x2.2.1) (x2.1, y4.2)) (Int.toNat x2.2.1) (y5.1, (((Int.tmod (IntKind.wrap IntKind.i64 (x2.1 + (1 : Int))) (3 : Int)) == (0 : Int)), y5.2.2))) (Int.toNat x2.2.1) (y6.1, (y6.2.1, (((IntKind.wrap IntKind.i64 ((IntKind.wrap IntKind.i64 (x2.1 + (1 : Int))) + (1 : Int))), y6.2.2.1.2), y6.2.2.2)))) (Int.toNat x2.2.1) (y7.1, (y7.2.1, ((y7.2.2.1.1, ((IntKind.wrap IntKind.i64 ((IntKind.wrap IntKind.i64 ((IntKind.wrap IntKind.i64 (x2.1 + (1 : Int))) + (1 : Int))) + (1 : Int))), y7.2.2.1.2.2)), y7.2.2.2))))) : Nat) : Int)))
 (Option.bind (List.set (List.set (List.set (List.set x2.2.2.1 (Int.toNat x2.2.1) (x2.1, y4.2)) (Int.toNat x2.2.1) (y5.1, (((Int.tmod (IntKind.wrap IntKind.i64 (x2.1 + (1 : Int))) (3 : Int)) == (0 : Int)), y5.2.2))) (Int.toNat x2.2.1) (y6.1, (y6.2.1, (((IntKind.wrap IntKind.i64 ((IntKind.wrap IntKind.i64 (x2.1 + (1 : Int))) + (1 : Int))), y6.2.2.1.2), y6.2.2.2)))) (Int.toNat x2.2.1) (y7.1, (y7.2.1, ((y7.2.2.1.1, ((IntKind.wrap IntKind.i64 ((IntKind.wrap IntKind.i64 ((IntKind.wrap IntKind.i64 (x2.1 + (1 : Int))) + (1 : Int))) + (1 : Int))), y7.2.2.1.2.2)), y7.2.2.2))))[(Int.toNat x2.2.1)]? fun y9 =>
 (rec ((IntKind.wrap IntKind.i64 ((IntKind.wrap IntKind.i64 ((IntKind.wrap IntKind.i64 ((IntKind.wrap IntKind.i64 ((IntKind.wrap IntKind.i64 (x2.1 + (1 : Int))) + (1 : Int))) + (1 : Int))) + (1 : Int))) + (1 : Int))), (IntKind.wrap IntKind.i64 (x2.2.1 + (1 : Int))), (List.set (List.set (List.set (List.set (List.set x2.2.2.1 (Int.toNat x2.2.1) (x2.1, y4.2)) (Int.toNat x2.2.1) (y5.1, (((Int.tmod (IntKind.wrap IntKind.i64 (x2.1 + (1 : Int))) (3 : Int)) == (0 : Int)), y5.2.2))) (Int.toNat x2.2.1) (y6.1, (y6.2.1, (((IntKind.wrap IntKind.i64 ((IntKind.wrap IntKind.i64 (x2.1 + (1 : Int))) + (1 : Int))), y6.2.2.1.2), y6.2.2.2)))) (Int.toNat x2.2.1) (y7.1, (y7.2.1, ((y7.2.2.1.1, ((IntKind.wrap IntKind.i64 ((IntKind.wrap IntKind.i64 ((IntKind.wrap IntKind.i64 (x2.1 + (1 : Int))) + (1 : Int))) + (1 : Int))), y7.2.2.1.2.2)), y7.2.2.2)))) (Int.toNat x2.2.1) (y9.1, (y9.2.1, ((y9.2.2.1.1, (y9.2.2.1.2.1, (y8.1, y9.2.2.1.2.2.2))), y9.2.2.2)))), ()))))))))))))))))))
 (e0_0 (x2.1, x2.2.2.1, ())))
noncomputable def F98 (a0 : List (D94)) (a1 : Int) : Option (Int × List (D94) × Unit) :=
 (iter (F98_R2
 (fun y10 =>
 (some (y10.1, (y10.2.1, ()))))) fuel (a1, (0 : Int), a0, ()))
noncomputable def C98 : Fun := ⟨[(.io (.slice Y94) (.own .z)), (.ro (.int .i64))], [((.int .i64), .z)], fun z => F98 z.1 z.2.1⟩
noncomputable def E98 : Env := ⟨54, tyTab tys, oneTab ones, fnTab [(40, C40)], false, [], [(2, [0, 1, 5], [4]), (4, [0, 1, 5], [4]), (14, [1], [4]), (100000, [1], [4]), (100001, [0, 1, 5], [4]), (99999, [4], [4])], none, [], []⟩
noncomputable def L98 : List (LoopS (Int × List (D94) × Unit)) := [⟨2, ⟨[(0, (.ref (.slice Y94) 4 [])), (1, (.pv (.int .i64))), (5, (.pv (.int .i64)))], [(4, (.data false (.slice Y94) (.own .z)))]⟩, fun κ => F98_R2 (fun y => κ.exit 0 (SSh.mk' ⟨[(1, (.pv (.int .i64)))], [(4, (.data false (.slice Y94) (.own .z)))]⟩ y))⟩]
theorem L98_2 : ∀ p : Option Src, RoundEq { E98 with pin := p } L98 L98[0] (nthLoop (codeOf Tryz.f98) 0) := fun p κ N x => by kernel_rfl
theorem C98_ok : IoOk Tryz.prog 98 C98 := tO E98 L98 [nthLoop (codeOf Tryz.f98) 0] Tryz.func98 ty_ok (.cons C40_ok .nil) (fun p => (.cons L98[0] (by kernel_rfl) (L98_2 p) .nil))
noncomputable def F62_R2 (e0_0 : Int × List (D58) × Unit → Option (Int × List (D58) × Unit)) (rec : Int × Int × List (D58) × Unit → Option (Int × List (D58) × Unit)) (x2 : Int × Int × List (D58) × Unit) : Option (Int × List (D58) × Unit) :=
 (cond (decide (x2.2.1 < (((List.length x2.2.2.1) : Nat) : Int)))
 (gd (decide ((0 : Int) ≤ x2.2.1))
 (gd (decide (x2.2.1 < (((List.length x2.2.2.1) : Nat) : Int)))
 (Option.bind x2.2.2.1[(Int.toNat x2.2.1)]? fun y4 =>
 (gd (decide ((0 : Int) ≤ x2.2.1))
 (gd (decide (x2.2.1 < (((List.length (List.set x2.2.2.1 (Int.toNat x2.2.1) (x2.1, y4.2))) : Nat) : Int)))
 (Option.bind (List.set x2.2.2.1 (Int.toNat x2.2.1) (x2.1, y4.2))[(Int.toNat x2.2.1)]? fun y5 =>
 (Option.bind (List.set x2.2.2.1 (Int.toNat x2.2.1) (x2.1, y4.2))[(Int.toNat x2.2.1)]? fun y6 =>
 (Option.bind (F98 y6.2.1 (IntKind.wrap IntKind.i64 (x2.1 + (1 : Int)))) fun y7 =>
 (Option.bind (List.set x2.2.2.1 (Int.toNat x2.2.1) (x2.1, y4.2))[(Int.toNat x2.2.1)]? fun y8 =>
 (rec (y7.1, (IntKind.wrap IntKind.i64 (x2.2.1 + (1 : Int))), (List.set (List.set x2.2.2.1 (Int.toNat x2.2.1) (x2.1, y4.2)) (Int.toNat x2.2.1) (y8.1, (y7.2.1, y8.2.2))), ())))))))))))
 (e0_0 (x2.1, x2.2.2.1, ())))
noncomputable def F62 (a0 : List (D58)) (a1 : Int) : Option (Int × List (D58) × Unit) :=
 (iter (F62_R2
 (fun y9 =>
 (some (y9.1, (y9.2.1, ()))))) fuel (a1, (0 : Int), a0, ()))
noncomputable def C62 : Fun := ⟨[(.io (.slice Y58) (.own (.pr .z (.pr (.own .z) .z)))), (.ro (.int .i64))], [((.int .i64), .z)], fun z => F62 z.1 z.2.1⟩
noncomputable def E62 : Env := ⟨27, tyTab tys, oneTab ones, fnTab [(98, C98)], false, [], [(2, [0, 1, 5], [4]), (4, [0, 1, 5], [4]), (7, [1], [4]), (100000, [1], [4]), (100001, [0, 1, 5], [4]), (99999, [4], [4])], none, [], []⟩
noncomputable def L62 : List (LoopS (Int × List (D58) × Unit)) := [⟨2, ⟨[(0, (.ref (.slice Y58) 4 [])), (1, (.pv (.int .i64))), (5, (.pv (.int .i64)))], [(4, (.data false (.slice Y58) (.own (.pr .z (.pr (.own .z) .z)))))]⟩, fun κ => F62_R2 (fun y => κ.exit 0 (SSh.mk' ⟨[(1, (.pv (.int .i64)))], [(4, (.data false (.slice Y58) (.own (.pr .z (.pr (.own .z) .z)))))]⟩ y))⟩]
theorem L62_2 : ∀ p : Option Src, RoundEq { E62 with pin := p } L62 L62[0] (nthLoop (codeOf Tryz.f62) 0) := fun p κ N x => by kernel_rfl
theorem C62_ok : IoOk Tryz.prog 62 C62 := tO E62 L62 [nthLoop (codeOf Tryz.f62) 0] Tryz.func62 ty_ok (.consIo C98_ok .nil) (fun p => (.cons L62[0] (by kernel_rfl) (L62_2 p) .nil))
noncomputable def F99_R2 (e0_0 : Int × List (D209) × Unit → Option (Int × List (D209) × Unit)) (rec : Int × Int × List (D209) × Unit → Option (Int × List (D209) × Unit)) (x2 : Int × Int × List (D209) × Unit) : Option (Int × List (D209) × Unit) :=
 (cond (decide (x2.2.1 < (((List.length x2.2.2.1) : Nat) : Int)))
 (Option.bind (F40 x2.1) fun y4 =>
 (gd (decide ((0 : Int) ≤ x2.2.1))
 (gd (decide (x2.2.1 < (((List.length x2.2.2.1) : Nat) : Int)))
 (Option.bind x2.2.2.1[(Int.toNat x2.2.1)]? fun y5 =>
 (gd (decide ((0 : Int) ≤ x2.2.1))
 (gd (decide (x2.2.1 < (((List.length (List.set x2.2.2.1 (Int.toNat x2.2.1) (y4.1, y5.2))) : Nat) : Int)))
 (Option.bind (List.set x2.2.2.1 (Int.toNat x2.2.1) (y4.1, y5.2))[(Int.toNat x2.2.1)]? fun y6 =>
 (rec ((IntKind.wrap IntKind.i64 ((IntKind.wrap IntKind.i64 (x2.1 + (1 : Int))) + (1 : Int))), (IntKind.wrap IntKind.i64 (x2.2.1 + (1 : Int))), (List.set (List.set x2.2.2.1 (Int.toNat x2.2.1) (y4.1, y5.2)) (Int.toNat x2.2.1) (y6.1, (((Int.tmod (IntKind.wrap IntKind.i64 (x2.1 + (1 : Int))) (3 : Int)) == (0 : Int)), y6.2.2))), ())))))))))
 (e0_0 (x2.1, x2.2.2.1, ())))
noncomputable def F99 (a0 : List (D209)) (a1 : Int) : Option (Int × List (D209) × Unit) :=
 (iter (F99_R2
 (fun y7 =>
 (some (y7.1, (y7.2.1, ()))))) fuel (a1, (0 : Int), a0, ()))
noncomputable def C99 : Fun := ⟨[(.io (.slice Y209) (.own .z)), (.ro (.int .i64))], [((.int .i64), .z)], fun z => F99 z.1 z.2.1⟩
noncomputable def E99 : Env := ⟨30, tyTab tys, oneTab ones, fnTab [(40, C40)], false, [], [(2, [0, 1, 5], [4]), (4, [0, 1, 5], [4]), (8, [1], [4]), (100000, [1], [4]), (100001, [0, 1, 5], [4]), (99999, [4], [4])], none, [], []⟩
noncomputable def L99 : List (LoopS (Int × List (D209) × Unit)) := [⟨2, ⟨[(0, (.ref (.slice Y209) 4 [])), (1, (.pv (.int .i64))), (5, (.pv (.int .i64)))], [(4, (.data false (.slice Y209) (.own .z)))]⟩, fun κ => F99_R2 (fun y => κ.exit 0 (SSh.mk' ⟨[(1, (.pv (.int .i64)))], [(4, (.data false (.slice Y209) (.own .z)))]⟩ y))⟩]
theorem L99_2 : ∀ p : Option Src, RoundEq { E99 with pin := p } L99 L99[0] (nthLoop (codeOf Tryz.f99) 0) := fun p κ N x => by kernel_rfl
theorem C99_ok : IoOk Tryz.prog 99 C99 := tO E99 L99 [nthLoop (codeOf Tryz.f99) 0] Tryz.func99 ty_ok (.cons C40_ok .nil) (fun p => (.cons L99[0] (by kernel_rfl) (L99_2 p) .nil))
noncomputable def F63_R2 (e0_0 : Int × List (D158) × Unit → Option (Int × List (D158) × Unit)) (rec : Int × Int × List (D158) × Unit → Option (Int × List (D158) × Unit)) (x2 : Int × Int × List (D158) × Unit) : Option (Int × List (D158) × Unit) :=
 (cond (decide (x2.2.1 < (((List.length x2.2.2.1) : Nat) : Int)))
 (Option.bind (F40 x2.1) fun y4 =>
 (gd (decide ((0 : Int) ≤ x2.2.1))
 (gd (decide (x2.2.1 < (((List.length x2.2.2.1) : Nat) : Int)))
 (Option.bind x2.2.2.1[(Int.toNat x2.2.1)]? fun y5 =>
 (gd (decide ((0 : Int) ≤ x2.2.1))
 (gd (decide (x2.2.1 < (((List.length (List.set x2.2.2.1 (Int.toNat x2.2.1) (y4.1, y5.2))) : Nat) : Int)))
 (Option.bind (List.set x2.2.2.1 (Int.toNat x2.2.1) (y4.1, y5.2))[(Int.toNat x2.2.1)]? fun y6 =>
 (Option.bind (List.set x2.2.2.1 (Int.toNat x2.2.1) (y4.1, y5.2))[(Int.toNat x2.2.1)]? fun y7 =>
 (Option.bind (F99 y7.2.1 (IntKind.wrap IntKind.i64 (x2.1 + (1 : Int)))) fun y8 =>
 (Option.bind (List.set x2.2.2.1 (Int.toNat x2.2.1) (y4.1, y5.2))[(Int.toNat x2.2.1)]? fun y9 =>
 (rec (y8.1, (IntKind.wrap IntKind.i64 (x2.2.1 + (1 : Int))), (List.set (List.set x2.2.2.1 (Int.toNat x2.2.1) (y4.1, y5.2)) (Int.toNat x2.2.1) (y9.1, (y8.2.1, y9.2.2))), ()))))))))))))
 (e0_0 (x2.1, x2.2.2.1, ())))
noncomputable def F63 (a0 : List (D158)) (a1 : Int) : Option (Int × List (D158) × Unit) :=
 (iter (F63_R2
 (fun y10 =>
 (some (y10.1, (y10.2.1, ()))))) fuel (a1, (0 : Int), a0, ()))
noncomputable def C63 : Fun := ⟨[(.io (.slice Y158) (.own (.pr .z (.pr (.own .z) .z)))), (.ro (.int .i64))], [((.int .i64), .z)], fun z => F63 z.1 z.2.1⟩
noncomputable def E63 : Env := ⟨28, tyTab tys, oneTab ones, fnTab [(40, C40), (99, C99)], false, [], [(2, [0, 1, 5], [4]), (4, [0, 1, 5], [4]), (7, [1], [4]), (100000, [1], [4]), (100001, [0, 1, 5], [4]), (99999, [4], [4])], none, [], []⟩
noncomputable def L63 : List (LoopS (Int × List (D158) × Unit)) := [⟨2, ⟨[(0, (.ref (.slice Y158) 4 [])), (1, (.pv (.int .i64))), (5, (.pv (.int .i64)))], [(4, (.data false (.slice Y158) (.own (.pr .z (.pr (.own .z) .z)))))]⟩, fun κ => F63_R2 (fun y => κ.exit 0 (SSh.mk' ⟨[(1, (.pv (.int .i64)))], [(4, (.data false (.slice Y158) (.own (.pr .z (.pr (.own .z) .z)))))]⟩ y))⟩]
theorem L63_2 : ∀ p : Option Src, RoundEq { E63 with pin := p } L63 L63[0] (nthLoop (codeOf Tryz.f63) 0) := fun p κ N x => by kernel_rfl
theorem C63_ok : IoOk Tryz.prog 63 C63 := tO E63 L63 [nthLoop (codeOf Tryz.f63) 0] Tryz.func63 ty_ok (.cons C40_ok (.consIo C99_ok .nil)) (fun p => (.cons L63[0] (by kernel_rfl) (L63_2 p) .nil))
noncomputable def F33_R2 (e0_0 : Int × List (D55) × Unit → Option (Int × List (D55) × Unit)) (rec : Int × Int × List (D55) × Unit → Option (Int × List (D55) × Unit)) (x2 : Int × Int × List (D55) × Unit) : Option (Int × List (D55) × Unit) :=
 (cond (decide (x2.2.1 < (((List.length x2.2.2.1) : Nat) : Int)))
 (Option.bind (F40 x2.1) fun y4 =>
 (gd (decide ((0 : Int) ≤ x2.2.1))
 (gd (decide (x2.2.1 < (((List.length x2.2.2.1) : Nat) : Int)))
 (Option.bind x2.2.2.1[(Int.toNat x2.2.1)]? fun y5 =>
 (gd (decide ((0 : Int) ≤ x2.2.1))
 (gd (decide (x2.2.1 < (((List.length (List.set x2.2.2.1 (Int.toNat x2.2.1) (y4.1, y5.2))) : Nat) : Int)))
 (Option.bind (List.set x2.2.2.1 (Int.toNat x2.2.1) (y4.1, y5.2))[(Int.toNat x2.2.1)]? fun y6 =>
 (Option.bind (List.set x2.2.2.1 (Int.toNat x2.2.1) (y4.1, y5.2))[(Int.toNat x2.2.1)]? fun y7 =>
 (Option.bind (F62 y7.2.1 (IntKind.wrap IntKind.i64 (x2.1 + (1 : Int)))) fun y8 =>
 (Option.bind (List.set x2.2.2.1 (Int.toNat x2.2.1) (y4.1, y5.2))[(Int.toNat x2.2.1)]? fun y9 =>
 (gd (decide ((0 : Int) ≤ x2.2.1))
 (gd (decide (x2.2.1 < (((List.length (List.set (List.set x2.2.2.1 (Int.toNat x2.2.1) (y4.1, y5.2)) (Int.toNat x2.2.1) (y9.1, (y8.2.1, y9.2.2)))) : Nat) : Int)))
 (Option.bind (List.set (List.set x2.2.2.1 (Int.toNat x2.2.1) (y4.1, y5.2)) (Int.toNat x2.2.1) (y9.1, (y8.2.1, y9.2.2)))[(Int.toNat x2.2.1)]? fun y10 =>
 (Option.bind (List.set (List.set x2.2.2.1 (Int.toNat x2.2.1) (y4.1, y5.2)) (Int.toNat x2.2.1) (y9.1, (y8.2.1, y9.2.2)))[(Int.toNat x2.2.1)]? fun y11 =>
 (Option.bind (F63 y11.2.2.1 y8.1) fun y12 =>
 (Option.bind (List.set (List.set x2.2.2.1 (Int.toNat x2.2.1) (y4.1, y5.2)) (Int.toNat x2.2.1) (y9.1, (y8.2.1, y9.2.2)))[(Int.toNat x2.2.1)]? fun y13 =>
 (rec (y12.1, (IntKind.wrap IntKind.i64 (x2.2.1 + (1 : Int))), (List.set (List.set (List.set x2.2.2.1 (Int.toNat x2.2.1) (y4.1, y5.2)) (Int.toNat x2.2.1) (y9.1, (y8.2.1, y9.2.2))) (Int.toNat x2.2.1) (y13.1, (y13.2.1, (y12.2.1, y13.2.2.2)))), ()))))))))))))))))))
 (e0_0 (x2.1, x2.2.2.1, ())))
noncomputable def F33 (a0 : List (D55)) (a1 : Int) : Option (Int × List (D55) × Unit) :=
 (iter (F33_R2
 (fun y14 =>
 (some (y14.1, (y14.2.1, ()))))) fuel (a1, (0 : Int), a0, ()))
noncomputable def C33 : Fun := ⟨[(.io (.slice Y55) (.own (.pr .z (.pr (.own (.pr .z (.pr (.own .z) .z))) (.pr (.own (.pr .z (.pr (.own .z) .z))) .z))))), (.ro (.int .i64))], [((.int .i64), .z)], fun z => F33 z.1 z.2.1⟩
noncomputable def E33 : Env := ⟨35, tyTab tys, oneTab ones, fnTab [(40, C40), (62, C62), (63, C63)], false, [], [(2, [0, 1, 5], [4]), (4, [0, 1, 5], [4]), (8, [1], [4]), (100000, [1], [4]), (100001, [0, 1, 5], [4]), (99999, [4], [4])], none, [], []⟩
noncomputable def L33 : List (LoopS (Int × List (D55) × Unit)) := [⟨2, ⟨[(0, (.ref (.slice Y55) 4 [])), (1, (.pv (.int .i64))), (5, (.pv (.int .i64)))], [(4, (.data false (.slice Y55) (.own (.pr .z (.pr (.own (.pr .z (.pr (.own .z) .z))) (.pr (.own (.pr .z (.pr (.own .z) .z))) .z))))))]⟩, fun κ => F33_R2 (fun y => κ.exit 0 (SSh.mk' ⟨[(1, (.pv (.int .i64)))], [(4, (.data false (.slice Y55) (.own (.pr .z (.pr (.own (.pr .z (.pr (.own .z) .z))) (.pr (.own (.pr .z (.pr (.own .z) .z))) .z))))))]⟩ y))⟩]
theorem L33_2 : ∀ p : Option Src, RoundEq { E33 with pin := p } L33 L33[0] (nthLoop (codeOf Tryz.f33) 0) := fun p κ N x => by kernel_rfl
theorem C33_ok : IoOk Tryz.prog 33 C33 := tO E33 L33 [nthLoop (codeOf Tryz.f33) 0] Tryz.func33 ty_ok (.cons C40_ok (.consIo C62_ok (.consIo C63_ok .nil))) (fun p => (.cons L33[0] (by kernel_rfl) (L33_2 p) .nil))
noncomputable def F136_R2 (e0_0 : Int × List (D222) × Unit → Option (Int × List (D222) × Unit)) (rec : Int × Int × List (D222) × Unit → Option (Int × List (D222) × Unit)) (x2 : Int × Int × List (D222) × Unit) : Option (Int × List (D222) × Unit) :=
 (cond (decide (x2.2.1 < (((List.length x2.2.2.1) : Nat) : Int)))
 (gd (decide ((0 : Int) ≤ x2.2.1))
 (gd (decide (x2.2.1 < (((List.length x2.2.2.1) : Nat) : Int)))
 (Option.bind x2.2.2.1[(Int.toNat x2.2.1)]? fun y4 =>
 (Option.bind (F40 (IntKind.wrap IntKind.i64 (x2.1 + (1 : Int)))) fun y5 =>
 (gd (decide ((0 : Int) ≤ x2.2.1))
 (gd (decide (x2.2.1 < (((List.length (List.set x2.2.2.1 (Int.toNat x2.2.1) (x2.1, y4.2))) : Nat) : Int)))
 (Option.bind (List.set x2.2.2.1 (Int.toNat x2.2.1) (x2.1, y4.2))[(Int.toNat x2.2.1)]? fun y6 =>
 (gd (decide ((0 : Int) ≤ x2.2.1))
 (gd (decide (x2.2.1 < (((List.length (List.set (List.set x2.2.2.1 (Int.toNat x2.2.1) (x2.1, y4.2)) (Int.toNat x2.2.1) (y6.1, (y5.1, y6.2.2)))) : Nat) : Int)))
 (Option.bind (List.set (List.set x2.2.2.1 (Int.toNat x2.2.1) (x2.1, y4.2)) (Int.toNat x2.2.1) (y6.1, (y5.1, y6.2.2)))[(Int.toNat x2.2.1)]? fun y7 =>
 (gd (decide ((0 : Int) ≤ x2.2.1))
 (gd (decide (x2.2.1 < (((List.length (List.set (List.set (List.set x2.2.2.1 (Int.toNat x2.2.1) (x2.1, y4.2)) (Int.toNat x2.2.1) (y6.1, (y5.1, y6.2.2))) (Int.toNat x2.2.1) (y7.1, (y7.2.1, (((IntKind.wrap IntKind.i64 ((IntKind.wrap IntKind.i64 (x2.1 + (1 : Int))) + (1 : Int))), y7.2.2.1.2), y7.2.2.2))))) : Nat) : Int)))
 (Option.bind (List.set (List.set (List.set x2.2.2.1 (Int.toNat x2.2.1) (x2.1, y4.2)) (Int.toNat x2.2.1) (y6.1, (y5.1, y6.2.2))) (Int.toNat x2.2.1) (y7.1, (y7.2.1, (((IntKind.wrap IntKind.i64 ((IntKind.wrap IntKind.i64 (x2.1 + (1 : Int))) + (1 : Int))), y7.2.2.1.2), y7.2.2.2))))[(Int.toNat x2.2.1)]? fun y8 =>
 (Option.bind (F40 (IntKind.wrap IntKind.i64 ((IntKind.wrap IntKind.i64 ((IntKind.wrap IntKind.i64 ((IntKind.wrap IntKind.i64 (x2.1 + (1 : Int))) + (1 : Int))) + (1 : Int))) + (1 : Int)))) fun y9 =>
 (gd (decide ((0 : Int) ≤ x2.2.1))
 (gd (decide (x2.2.1 < (((List.length (List.set (List.set (List.set (List.set x2.2.2.1 (Int.toNat x2.2.1) (x2.1, y4.2)) (Int.toNat x2.2.1) (y6.1, (y5.1, y6.2.2))) (Int.toNat x2.2.1) (y7.1, (y7.2.1, (((IntKind.wrap IntKind.i64 ((IntKind.wrap IntKind.i64 (x2.1 + (1 : Int))) + (1 : Int))), y7.2.2.1.2), y7.2.2.2)))) (Int.toNat x2.2.1) (y8.1, (y8.2.1, ((y8.2.2.1.1, ((IntKind.wrap IntKind.i64 ((IntKind.wrap IntKind.i64 ((IntKind.wrap IntKind.i64 (x2.1 + (1 : Int))) + (1 : Int))) + (1 : Int))), y8.2.2.1.2.2)), y8.2.2.2))))) : Nat) : Int)))
 (Option.bind (List.set (List.set (List.set (List.set x2.2.2.1 (Int.toNat x2.2.1) (x2.1, y4.2)) (Int.toNat x2.2.1) (y6.1, (y5.1, y6.2.2))) (Int.toNat x2.2.1) (y7.1, (y7.2.1, (((IntKind.wrap IntKind.i64 ((IntKind.wrap IntKind.i64 (x2.1 + (1 : Int))) + (1 : Int))), y7.2.2.1.2), y7.2.2.2)))) (Int.toNat x2.2.1) (y8.1, (y8.2.1, ((y8.2.2.1.1, ((IntKind.wrap IntKind.i64 ((IntKind.wrap IntKind.i64 ((IntKind.wrap IntKind.i64 (x2.1 + (1 : Int))) + (1 : Int))) + (1 : Int))), y8.2.2.1.2.2)), y8.2.2.2))))[(Int.toNat x2.2.1)]? fun y10 =>
 (rec ((IntKind.wrap IntKind.i64 ((IntKind.wrap IntKind.i64 ((IntKind.wrap IntKind.i64 ((IntKind.wrap IntKind.i64 ((IntKind.wrap IntKind.i64 (x2.1 + (1 : Int))) + (1 : Int))) + (1 : Int))) + (1 : Int))) + (1 : Int))), (IntKind.wrap IntKind.i64 (x2.2.1 + (1 : Int))), (List.set (List.set (List.set (List.set (List.set x2.2.2.1 (Int.toNat x2.2.1) (x2.1, y4.2)) (Int.toNat x2.2.1) (y6.1, (y5.1, y6.2.2))) (Int.toNat x2.2.1) (y7.1, (y7.2.1, (((IntKind.wrap IntKind.i64 ((IntKind.wrap IntKind.i64 (x2.1 + (1 : Int))) + (1 : Int))), y7.2.2.1.2), y7.2.2.2)))) (Int.toNat x2.2.1) (y8.1, (y8.2.1, ((y8.2.2.1.1, ((IntKind.wrap IntKind.i64 ((IntKind.wrap IntKind.i64 ((IntKind.wrap IntKind.i64 (x2.1 + (1 : Int))) + (1 : Int))) + (1 : Int))), y8.2.2.1.2.2)), y8.2.2.2)))) (Int.toNat x2.2.1) (y10.1, (y10.2.1, ((y10.2.2.1.1, (y10.2.2.1.2.1, (y9.1, y10.2.2.1.2.2.2))), y10.2.2.2)))), ())))))))))))))))))))
 (e0_0 (x2.1, x2.2.2.1, ())))
noncomputable def F136 (a0 : List (D222)) (a1 : Int) : Option (Int × List (D222) × Unit) :=
 (iter (F136_R2
 (fun y11 =>
 (some (y11.1, (y11.2.1, ()))))) fuel (a1, (0 : Int), a0, ()))
noncomputable def C136 : Fun := ⟨[(.io (.slice Y222) (.own .z)), (.ro (.int .i64))], [((.int .i64), .z)], fun z => F136 z.1 z.2.1⟩
noncomputable def E136 : Env := ⟨53, tyTab tys, oneTab ones, fnTab [(40, C40)], false, [], [(2, [0, 1, 5], [4]), (4, [0, 1, 5], [4]), (14, [1], [4]), (100000, [1], [4]), (100001, [0, 1, 5], [4]), (99999, [4], [4])], none, [], []⟩
noncomputable def L136 : List (LoopS (Int × List (D222) × Unit)) := [⟨2, ⟨[(0, (.ref (.slice Y222) 4 [])), (1, (.pv (.int .i64))), (5, (.pv (.int .i64)))], [(4, (.data false (.slice Y222) (.own .z)))]⟩, fun κ => F136_R2 (fun y => κ.exit 0 (SSh.mk' ⟨[(1, (.pv (.int .i64)))], [(4, (.data false (.slice Y222) (.own .z)))]⟩ y))⟩]
theorem L136_2 : ∀ p : Option Src, RoundEq { E136 with pin := p } L136 L136[0] (nthLoop (codeOf Tryz.f136) 0) := fun p κ N x => by kernel_rfl
theorem C136_ok : IoOk Tryz.prog 136 C136 := tO E136 L136 [nthLoop (codeOf Tryz.f136) 0] Tryz.func136 ty_ok (.cons C40_ok .nil) (fun p => (.cons L136[0] (by kernel_rfl) (L136_2 p) .nil))
noncomputable def F100_R2 (e0_0 : Int × List (D213) × Unit → Option (Int × List (D213) × Unit)) (rec : Int × Int × List (D213) × Unit → Option (Int × List (D213) × Unit)) (x2 : Int × Int × List (D213) × Unit) : Option (Int × List (D213) × Unit) :=
 (cond (decide (x2.2.1 < (((List.length x2.2.2.1) : Nat) : Int)))
 (gd (decide ((0 : Int) ≤ x2.2.1))
 (gd (decide (x2.2.1 < (((List.length x2.2.2.1) : Nat) : Int)))
 (Option.bind x2.2.2.1[(Int.toNat x2.2.1)]? fun y4 =>
 (Option.bind x2.2.2.1[(Int.toNat x2.2.1)]? fun y5 =>
 (Option.bind (F136 y5.1 x2.1) fun y6 =>
 (Option.bind x2.2.2.1[(Int.toNat x2.2.1)]? fun y7 =>
 (rec (y6.1, (IntKind.wrap IntKind.i64 (x2.2.1 + (1 : Int))), (List.set x2.2.2.1 (Int.toNat x2.2.1) (y6.2.1, y7.2)), ()))))))))
 (e0_0 (x2.1, x2.2.2.1, ())))
noncomputable def F100 (a0 : List (D213)) (a1 : Int) : Option (Int × List (D213) × Unit) :=
 (iter (F100_R2
 (fun y8 =>
 (some (y8.1, (y8.2.1, ()))))) fuel (a1, (0 : Int), a0, ()))
noncomputable def C100 : Fun := ⟨[(.io (.slice Y213) (.own (.pr (.own .z) .z))), (.ro (.int .i64))], [((.int .i64), .z)], fun z => F100 z.1 z.2.1⟩
noncomputable def E100 : Env := ⟨20, tyTab tys, oneTab ones, fnTab [(136, C136)], false, [], [(2, [0, 1, 5], [4]), (4, [0, 1, 5], [4]), (5, [1], [4]), (100000, [1], [4]), (100001, [0, 1, 5], [4]), (99999, [4], [4])], none, [], []⟩
noncomputable def L100 : List (LoopS (Int × List (D213) × Unit)) := [⟨2, ⟨[(0, (.ref (.slice Y213) 4 [])), (1, (.pv (.int .i64))), (5, (.pv (.int .i64)))], [(4, (.data false (.slice Y213) (.own (.pr (.own .z) .z))))]⟩, fun κ => F100_R2 (fun y => κ.exit 0 (SSh.mk' ⟨[(1, (.pv (.int .i64)))], [(4, (.data false (.slice Y213) (.own (.pr (.own .z) .z))))]⟩ y))⟩]
theorem L100_2 : ∀ p : Option Src, RoundEq { E100 with pin := p } L100 L100[0] (nthLoop (codeOf Tryz.f100) 0) := fun p κ N x => by kernel_rfl
theorem C100_ok : IoOk Tryz.prog 100 C100 := tO E100 L100 [nthLoop (codeOf Tryz.f100) 0] Tryz.func100 ty_ok (.consIo C136_ok .nil) (fun p => (.cons L100[0] (by kernel_rfl) (L100_2 p) .nil))
noncomputable def F64_R2 (e0_0 : Int × List (D139) × Unit → Option (Int × List (D139) × Unit)) (rec : Int × Int × List (D139) × Unit → Option (Int × List (D139) × Unit)) (x2 : Int × Int × List (D139) × Unit) : Option (Int × List (D139) × Unit) :=
 (cond (decide (x2.2.1 < (((List.length x2.2.2.1) : Nat) : Int)))
 (Option.bind (F40 x2.1) fun y4 =>
 (gd (decide ((0 : Int) ≤ x2.2.1))
 (gd (decide (x2.2.1 < (((List.length x2.2.2.1) : Nat) : Int)))
 (Option.bind x2.2.2.1[(Int.toNat x2.2.1)]? fun y5 =>
 (gd (decide ((0 : Int) ≤ x2.2.1))
 (gd (decide (x2.2.1 < (((List.length (List.set x2.2.2.1 (Int.toNat x2.2.1) (y4.1, y5.2))) : Nat) : Int)))
 (Option.bind (List.set x2.2.2.1 (Int.toNat x2.2.1) (y4.1, y5.2))[(Int.toNat x2.2.1)]? fun y6 =>
 (Option.bind (List.set x2.2.2.1 (Int.toNat x2.2.1) (y4.1, y5.2))[(Int.toNat x2.2.1)]? fun y7 =>
 (Option.bind (F100 y7.2.1.1 (IntKind.wrap IntKind.i64 (x2.1 + (1 : Int)))) fun y8 =>
 (Option.bind (List.set x2.2.2.1 (Int.toNat x2.2.1) (y4.1, y5.2))[(Int.toNat x2.2.1)]? fun y9 =>
 (rec (y8.1, (IntKind.wrap IntKind.i64 (x2.2.1 + (1 : Int))), (List.set (List.set x2.2.2.1 (Int.toNat x2.2.1) (y4.1, y5.2)) (Int.toNat x2.2.1) (y9.1, ((y8.2.1, y9.2.1.2), y9.2.2))), ()))))))))))))
 (e0_0 (x2.1, x2.2.2.1, ())))
noncomputable def F64 (a0 : List (D139)) (a1 : Int) : Option (Int × List (D139) × Unit) :=
 (iter (F64_R2
 (fun y10 =>
 (some (y10.1, (y10.2.1, ()))))) fuel (a1, (0 : Int), a0, ()))
noncomputable def C64 : Fun := ⟨[(.io (.slice Y139) (.own (.pr .z (.pr (.pr (.own (.pr (.own .z) .z)) .z) .z)))), (.ro (.int .i64))], [((.int .i64), .z)], fun z => F64 z.1 z.2.1⟩
noncomputable def E64 : Env := ⟨29, tyTab tys, oneTab ones, fnTab [(40, C40), (100, C100)], false, [], [(2, [0, 1, 5], [4]), (4, [0, 1, 5], [4]), (7, [1], [4]), (100000, [1], [4]), (100001, [0, 1, 5], [4]), (99999, [4], [4])], none, [], []⟩
noncomputable def L64 : List (LoopS (Int × List (D139) × Unit)) := [⟨2, ⟨[(0, (.ref (.slice Y139) 4 [])), (1, (.pv (.int .i64))), (5, (.pv (.int .i64)))], [(4, (.data false (.slice Y139) (.own (.pr .z (.pr (.pr (.own (.pr (.own .z) .z)) .z) .z)))))]⟩, fun κ => F64_R2 (fun y => κ.exit 0 (SSh.mk' ⟨[(1, (.pv (.int .i64)))], [(4, (.data false (.slice Y139) (.own (.pr .z (.pr (.pr (.own (.pr (.own .z) .z)) .z) .z)))))]⟩ y))⟩]
theorem L64_2 : ∀ p : Option Src, RoundEq { E64 with pin := p } L64 L64[0] (nthLoop (codeOf Tryz.f64) 0) := fun p κ N x => by kernel_rfl
theorem C64_ok : IoOk Tryz.prog 64 C64 := tO E64 L64 [nthLoop (codeOf Tryz.f64) 0] Tryz.func64 ty_ok (.cons C40_ok (.consIo C100_ok .nil)) (fun p => (.cons L64[0] (by kernel_rfl) (L64_2 p) .nil))
noncomputable def F65_R2 (e0_0 : Int × List (D101) × Unit → Option (Int × List (D101) × Unit)) (rec : Int × Int × List (D101) × Unit → Option (Int × List (D101) × Unit)) (x2 : Int × Int × List (D101) × Unit) : Option (Int × List (D101) × Unit) :=
 (cond (decide (x2.2.1 < (((List.length x2.2.2.1) : Nat) : Int)))
 (Option.bind (F40 x2.1) fun y4 =>
 (gd (decide ((0 : Int) ≤ x2.2.1))
 (gd (decide (x2.2.1 < (((List.length x2.2.2.1) : Nat) : Int)))
 (Option.bind x2.2.2.1[(Int.toNat x2.2.1)]? fun y5 =>
 (gd (decide ((0 : Int) ≤ x2.2.1))
 (gd (decide (x2.2.1 < (((List.length (List.set x2.2.2.1 (Int.toNat x2.2.1) (y4.1, y5.2))) : Nat) : Int)))
 (Option.bind (List.set x2.2.2.1 (Int.toNat x2.2.1) (y4.1, y5.2))[(Int.toNat x2.2.1)]? fun y6 =>
 (gd (decide ((0 : Int) ≤ x2.2.1))
 (gd (decide (x2.2.1 < (((List.length (List.set (List.set x2.2.2.1 (Int.toNat x2.2.1) (y4.1, y5.2)) (Int.toNat x2.2.1) (y6.1, ((IntKind.wrap IntKind.i64 (x2.1 + (1 : Int))), y6.2.2)))) : Nat) : Int)))
 (Option.bind (List.set (List.set x2.2.2.1 (Int.toNat x2.2.1) (y4.1, y5.2)) (Int.toNat x2.2.1) (y6.1, ((IntKind.wrap IntKind.i64 (x2.1 + (1 : Int))), y6.2.2)))[(Int.toNat x2.2.1)]? fun y7 =>
 (gd (decide ((0 : Int) ≤ x2.2.1))
 (gd (decide (x2.2.1 < (((List.length (List.set (List.set (List.set x2.2.2.1 (Int.toNat x2.2.1) (y4.1, y5.2)) (Int.toNat x2.2.1) (y6.1, ((IntKind.wrap IntKind.i64 (x2.1 + (1 : Int))), y6.2.2))) (Int.toNat x2.2.1) (y7.1, (y7.2.1, (((Int.tmod (IntKind.wrap IntKind.i64 ((IntKind.wrap IntKind.i64 (x2.1 + (1 : Int))) + (1 : Int))) (3 : Int)) == (0 : Int)), y7.2.2.2))))) : Nat) : Int)))
 (Option.bind (List.set (List.set (List.set x2.2.2.1 (Int.toNat x2.2.1) (y4.1, y5.2)) (Int.toNat x2.2.1) (y6.1, ((IntKind.wrap IntKind.i64 (x2.1 + (1 : Int))), y6.2.2))) (Int.toNat x2.2.1) (y7.1, (y7.2.1, (((Int.tmod (IntKind.wrap IntKind.i64 ((IntKind.wrap IntKind.i64 (x2.1 + (1 : Int))) + (1 : Int))) (3 : Int)) == (0 : Int)), y7.2.2.2))))[(Int.toNat x2.2.1)]? fun y8 =>
 (gd (decide ((0 : Int) ≤ x2.2.1))
 (gd (decide (x2.2.1 < (((List.length (List.set (List.set (List.set (List.set x2.2.2.1 (Int.toNat x2.2.1) (y4.1, y5.2)) (Int.toNat x2.2.1) (y6.1, ((IntKind.wrap IntKind.i64 (x2.1 + (1 : Int))), y6.2.2))) (Int.toNat x2.2.1) (y7.1, (y7.2.1, (((Int.tmod (IntKind.wrap IntKind.i64 ((IntKind.wrap IntKind.i64 (x2.1 + (1 : Int))) + (1 : Int))) (3 : Int)) == (0 : Int)), y7.2.2.2)))) (Int.toNat x2.2.1) (y8.1, (y8.2.1, (y8.2.2.1, (((IntKind.wrap IntKind.i64 ((IntKind.wrap IntKind.i64 ((IntKind.wrap IntKind.i64 (x2.1 + (1 : Int))) + (1 : Int))) + (1 : Int))), y8.2.2.2.1.2), y8.2.2.2.2)))))) : Nat) : Int)))
 (Option.bind (List.set (List.set (List.set (List.set x2.2.2.1 (Int.toNat x2.2.1) (y4.1, y5.2)) (Int.toNat x2.2.1) (y6.1, ((IntKind.wrap IntKind.i64 (x2.1 + (1 : Int))), y6.2.2))) (Int.toNat x2.2.1) (y7.1, (y7.2.1, (((Int.tmod (IntKind.wrap IntKind.i64 ((IntKind.wrap IntKind.i64 (x2.1 + (1 : Int))) + (1 : Int))) (3 : Int)) == (0 : Int)), y7.2.2.2)))) (Int.toNat x2.2.1) (y8.1, (y8.2.1, (y8.2.2.1, (((IntKind.wrap IntKind.i64 ((IntKind.wrap IntKind.i64 ((IntKind.wrap IntKind.i64 (x2.1 + (1 : Int))) + (1 : Int))) + (1 : Int))), y8.2.2.2.1.2), y8.2.2.2.2)))))[(Int.toNat x2.2.1)]? fun y9 =>
 (Option.bind (F40 (IntKind.wrap IntKind.i64 ((IntKind.wrap IntKind.i64 ((IntKind.wrap IntKind.i64 ((IntKind.wrap IntKind.i64 ((IntKind.wrap IntKind.i64 (x2.1 + (1 : Int))) + (1 : Int))) + (1 : Int))) + (1 : Int))) + (1 : Int)))) fun y10 =>
 (gd (decide ((0 : Int) ≤ x2.2.1))
 (gd (decide (x2.2.1 < (((List.length (List.set (List.set (List.set (List.set (List.set x2.2.2.1 (Int.toNat x2.2.1) (y4.1, y5.2)) (Int.toNat x2.2.1) (y6.1, ((IntKind.wrap IntKind.i64 (x2.1 + (1 : Int))), y6.2.2))) (Int.toNat x2.2.1) (y7.1, (y7.2.1, (((Int.tmod (IntKind.wrap IntKind.i64 ((IntKind.wrap IntKind.i64 (x2.1 + (1 : Int))) + (1 : Int))) (3 : Int)) == (0 : Int)), y7.2.2.2)))) (Int.toNat x2.2.1) (y8.1, (y8.2.1, (y8.2.2.1, (((IntKind.wrap IntKind.i64 ((IntKind.wrap IntKind.i64 ((IntKind.wrap IntKind.i64 (x2.1 + (1 : Int))) + (1 : Int))) + (1 : Int))), y8.2.2.2.1.2), y8.2.2.2.2))))) (Int.toNat x2.2.1) (y9.1, (y9.2.1, (y9.2.2.1, ((y9.2.2.2.1.1, ((IntKind.wrap IntKind.i64 ((IntKind.wrap IntKind.i64 ((IntKind.wrap IntKind.i64 ((IntKind.wrap IntKind.i64 (x2.1 + (1 : Int))) + (1 : Int))) + (1 : Int))) + (1 : Int))), y9.2.2.2.1.2.2)), y9.2.2.2.2)))))) : Nat) : Int)))
 (Option.bind (List.set (List.set (List.set (List.set (List.set x2.2.2.1 (Int.toNat x2.2.1) (y4.1, y5.2)) (Int.toNat x2.2.1) (y6.1, ((IntKind.wrap IntKind.i64 (x2.1 + (1 : Int))), y6.2.2))) (Int.toNat x2.2.1) (y7.1, (y7.2.1, (((Int.tmod (IntKind.wrap IntKind.i64 ((IntKind.wrap IntKind.i64 (x2.1 + (1 : Int))) + (1 : Int))) (3 : Int)) == (0 : Int)), y7.2.2.2)))) (Int.toNat x2.2.1) (y8.1, (y8.2.1, (y8.2.2.1, (((IntKind.wrap IntKind.i64 ((IntKind.wrap IntKind.i64 ((IntKind.wrap IntKind.i64 (x2.1 + (1 : Int))) + (1 : Int))) + (1 : Int))), y8.2.2.2.1.2), y8.2.2.2.2))))) (Int.toNat x2.2.1) (y9.1, (y9.2.1, (y9.2.2.1, ((y9.2.2.2.1.1, ((IntKind.wrap IntKind.i64 ((IntKind.wrap IntKind.i64 ((IntKind.wrap IntKind.i64 ((IntKind.wrap IntKind.i64 (x2.1 + (1 : Int))) + (1 : Int))) + (1 : Int))) + (1 : Int))), y9.2.2.2.1.2.2)), y9.2.2.2.2)))))[(Int.toNat x2.2.1)]? fun y11 =>
 (rec ((IntKind.wrap IntKind.i64 ((IntKind.wrap IntKind.i64 ((IntKind.wrap IntKind.i64 ((IntKind.wrap IntKind.i64 ((IntKind.wrap IntKind.i64 ((IntKind.wrap IntKind.i64 (x2.1 + (1 : Int))) + (1 : Int))) + (1 : Int))) + (1 : Int))) + (1 : Int))) + (1 : Int))), (IntKind.wrap IntKind.i64 (x2.2.1 + (1 : Int))), (List.set (List.set (List.set (List.set (List.set (List.set x2.2.2.1 (Int.toNat x2.2.1) (y4.1, y5.2)) (Int.toNat x2.2.1) (y6.1, ((IntKind.wrap IntKind.i64 (x2.1 + (1 : Int))), y6.2.2))) (Int.toNat x2.2.1) (y7.1, (y7.2.1, (((Int.tmod (IntKind.wrap IntKind.i64 ((IntKind.wrap IntKind.i64 (x2.1 + (1 : Int))) + (1 : Int))) (3 : Int)) == (0 : Int)), y7.2.2.2)))) (Int.toNat x2.2.1) (y8.1, (y8.2.1, (y8.2.2.1, (((IntKind.wrap IntKind.i64 ((IntKind.wrap IntKind.i64 ((IntKind.wrap IntKind.i64 (x2.1 + (1 : Int))) + (1 : Int))) + (1 : Int))), y8.2.2.2.1.2), y8.2.2.2.2))))) (Int.toNat x2.2.1) (y9.1, (y9.2.1, (y9.2.2.1, ((y9.2.2.2.1.1, ((IntKind.wrap IntKind.i64 ((IntKind.wrap IntKind.i64 ((IntKind.wrap IntKind.i64 ((IntKind.wrap IntKind.i64 (x2.1 + (1 : Int))) + (1 : Int))) + (1 : Int))) + (1 : Int))), y9.2.2.2.1.2.2)), y9.2.2.2.2))))) (Int.toNat x2.2.1) (y11.1, (y11.2.1, (y11.2.2.1, ((y11.2.2.2.1.1, (y11.2.2.2.1.2.1, (y10.1, y11.2.2.2.1.2.2.2))), y11.2.2.2.2))))), ()))))))))))))))))))))))
 (e0_0 (x2.1, x2.2.2.1, ())))
noncomputable def F65 (a0 : List (D101)) (a1 : Int) : Option (Int × List (D101) × Unit) :=
 (iter (F65_R2
 (fun y12 =>
 (some (y12.1, (y12.2.1, ()))))) fuel (a1, (0 : Int), a0, ()))
noncomputable def C65 : Fun := ⟨[(.io (.slice Y101) (.own .z)), (.ro (.int .i64))], [((.int .i64), .z)], fun z => F65 z.1 z.2.1⟩
noncomputable def E65 : Env := ⟨62, tyTab tys, oneTab ones, fnTab [(40, C40)], false, [], [(2, [0, 1, 5], [4]), (4, [0, 1, 5], [4]), (16, [1], [4]), (100000, [1], [4]), (100001, [0, 1, 5], [4]), (99999, [4], [4])], none, [], []⟩
noncomputable def L65 : List (LoopS (Int × List (D101) × Unit)) := [⟨2, ⟨[(0, (.ref (.slice Y101) 4 [])), (1, (.pv (.int .i64))), (5, (.pv (.int .i64)))], [(4, (.data false (.slice Y101) (.own .z)))]⟩, fun κ => F65_R2 (fun y => κ.exit 0 (SSh.mk' ⟨[(1, (.pv (.int .i64)))], [(4, (.data false (.slice Y101) (.own .z)))]⟩ y))⟩]
theorem L65_2 : ∀ p : Option Src, RoundEq { E65 with pin := p } L65 L65[0] (nthLoop (codeOf Tryz.f65) 0) := fun p κ N x => by kernel_rfl
theorem C65_ok : IoOk Tryz.prog 65 C65 := tO E65 L65 [nthLoop (codeOf Tryz.f65) 0] Tryz.func65 ty_ok (.cons C40_ok .nil) (fun p => (.cons L65[0] (by kernel_rfl) (L65_2 p) .nil))
noncomputable def F34_R2 (e0_0 : Int × List (D85) × Unit → Option (Int × List (D85) × Unit)) (rec : Int × Int × List (D85) × Unit → Option (Int × List (D85) × Unit)) (x2 : Int × Int × List (D85) × Unit) : Option (Int × List (D85) × Unit) :=
 (cond (decide (x2.2.1 < (((List.length x2.2.2.1) : Nat) : Int)))
 (gd (decide ((0 : Int) ≤ x2.2.1))
 (gd (decide (x2.2.1 < (((List.length x2.2.2.1) : Nat) : Int)))
 (Option.bind x2.2.2.1[(Int.toNat x2.2.1)]? fun y4 =>
 (gd (decide ((0 : Int) ≤ x2.2.1))
 (gd (decide (x2.2.1 < (((List.length (List.set x2.2.2.1 (Int.toNat x2.2.1) (x2.1, y4.2))) : Nat) : Int)))
 (Option.bind (List.set x2.2.2.1 (Int.toNat x2.2.1) (x2.1, y4.2))[(Int.toNat x2.2.1)]? fun y5 =>
 (gd (decide ((0 : Int) ≤ x2.2.1))
 (gd (decide (x2.2.1 < (((List.length (List.set (List.set x2.2.2.1 (Int.toNat x2.2.1) (x2.1, y4.2)) (Int.toNat x2.2.1) (y5.1, ((IntKind.wrap IntKind.i64 (x2.1 + (1 : Int))), y5.2.2)))) : Nat) : Int)))
 (Option.bind (List.set (List.set x2.2.2.1 (Int.toNat x2.2.1) (x2.1, y4.2)) (Int.toNat x2.2.1) (y5.1, ((IntKind.wrap IntKind.i64 (x2.1 + (1 : Int))), y5.2.2)))[(Int.toNat x2.2.1)]? fun y6 =>
 (Option.bind (List.set (List.set x2.2.2.1 (Int.toNat x2.2.1) (x2.1, y4.2)) (Int.toNat x2.2.1) (y5.1, ((IntKind.wrap IntKind.i64 (x2.1 + (1 : Int))), y5.2.2)))[(Int.toNat x2.2.1)]? fun y7 =>
 (Option.bind (F64 y7.2.2.1 (IntKind.wrap IntKind.i64 ((IntKind.wrap IntKind.i64 (x2.1 + (1 : Int))) + (1 : Int)))) fun y8 =>
 (Option.bind (List.set (List.set x2.2.2.1 (Int.toNat x2.2.1) (x2.1, y4.2)) (Int.toNat x2.2.1) (y5.1, ((IntKind.wrap IntKind.i64 (x2.1 + (1 : Int))), y5.2.2)))[(Int.toNat x2.2.1)]? fun y9 =>
 (gd (decide ((0 : Int) ≤ x2.2.1))
 (gd (decide (x2.2.1 < (((List.length (List.set (List.set (List.set x2.2.2.1 (Int.toNat x2.2.1) (x2.1, y4.2)) (Int.toNat x2.2.1) (y5.1, ((IntKind.wrap IntKind.i64 (x2.1 + (1 : Int))), y5.2.2))) (Int.toNat x2.2.1) (y9.1, (y9.2.1, (y8.2.1, y9.2.2.2))))) : Nat) : Int)))
 (Option.bind (List.set (List.set (List.set x2.2.2.1 (Int.toNat x2.2.1) (x2.1, y4.2)) (Int.toNat x2.2.1) (y5.1, ((IntKind.wrap IntKind.i64 (x2.1 + (1 : Int))), y5.2.2))) (Int.toNat x2.2.1) (y9.1, (y9.2.1, (y8.2.1, y9.2.2.2))))[(Int.toNat x2.2.1)]? fun y10 =>
 (Option.bind (List.set (List.set (List.set x2.2.2.1 (Int.toNat x2.2.1) (x2.1, y4.2)) (Int.toNat x2.2.1) (y5.1, ((IntKind.wrap IntKind.i64 (x2.1 + (1 : Int))), y5.2.2))) (Int.toNat x2.2.1) (y9.1, (y9.2.1, (y8.2.1, y9.2.2.2))))[(Int.toNat x2.2.1)]? fun y11 =>
 (Option.bind (F65 y11.2.2.2.1 y8.1) fun y12 =>
 (Option.bind (List.set (List.set (List.set x2.2.2.1 (Int.toNat x2.2.1) (x2.1, y4.2)) (Int.toNat x2.2.1) (y5.1, ((IntKind.wrap IntKind.i64 (x2.1 + (1 : Int))), y5.2.2))) (Int.toNat x2.2.1) (y9.1, (y9.2.1, (y8.2.1, y9.2.2.2))))[(Int.toNat x2.2.1)]? fun y13 =>
 (rec (y12.1, (IntKind.wrap IntKind.i64 (x2.2.1 + (1 : Int))), (List.set (List.set (List.set (List.set x2.2.2.1 (Int.toNat x2.2.1) (x2.1, y4.2)) (Int.toNat x2.2.1) (y5.1, ((IntKind.wrap IntKind.i64 (x2.1 + (1 : Int))), y5.2.2))) (Int.toNat x2.2.1) (y9.1, (y9.2.1, (y8.2.1, y9.2.2.2)))) (Int.toNat x2.2.1) (y13.1, (y13.2.1, (y13.2.2.1, (y12.2.1, y13.2.2.2.2))))), ()))))))))))))))))))))
 (e0_0 (x2.1, x2.2.2.1, ())))
noncomputable def F34 (a0 : List (D85)) (a1 : Int) : Option (Int × List (D85) × Unit) :=
 (iter (F34_R2
 (fun y14 =>
 (some (y14.1, (y14.2.1, ()))))) fuel (a1, (0 : Int), a0, ()))
noncomputable def C34 : Fun := ⟨[(.io (.slice Y85) (.own (.pr .z (.pr .z (.pr (.own (.pr .z (.pr (.pr (.own (.pr (.own .z) .z)) .z) .z))) (.pr (.own .z) .z)))))), (.ro (.int .i64))], [((.int .i64), .z)], fun z => F34 z.1 z.2.1⟩
noncomputable def E34 : Env := ⟨41, tyTab tys, oneTab ones, fnTab [(64, C64), (65, C65)], false, [], [(2, [0, 1, 5], [4]), (4, [0, 1, 5], [4]), (10, [1], [4]), (100000, [1], [4]), (100001, [0, 1, 5], [4]), (99999, [4], [4])], none, [], []⟩
noncomputable def L34 : List (LoopS (Int × List (D85) × Unit)) := [⟨2, ⟨[(0, (.ref (.slice Y85) 4 [])), (1, (.pv (.int .i64))), (5, (.pv (.int .i64)))], [(4, (.data false (.slice Y85) (.own (.pr .z (.pr .z (.pr (.own (.pr .z (.pr (.pr (.own (.pr (.own .z) .z)) .z) .z))) (.pr (.own .z) .z)))))))]⟩, fun κ => F34_R2 (fun y => κ.exit 0 (SSh.mk' ⟨[(1, (.pv (.int .i64)))], [(4, (.data false (.slice Y85) (.own (.pr .z (.pr .z (.pr (.own (.pr .z (.pr (.pr (.own (.pr (.own .z) .z)) .z) .z))) (.pr (.own .z) .z)))))))]⟩ y))⟩]
theorem L34_2 : ∀ p : Option Src, RoundEq { E34 with pin := p } L34 L34[0] (nthLoop (codeOf Tryz.f34) 0) := fun p κ N x => by kernel_rfl
theorem C34_ok : IoOk Tryz.prog 34 C34 := tO E34 L34 [nthLoop (codeOf Tryz.f34) 0] Tryz.func34 ty_ok (.consIo C64_ok (.consIo C65_ok .nil)) (fun p => (.cons L34[0] (by kernel_rfl) (L34_2 p) .nil))
noncomputable def F66_R2 (e0_0 : Int × List (D162) × Unit → Option (Int × List (D162) × Unit)) (rec : Int × Int × List (D162) × Unit → Option (Int × List (D162) × Unit)) (x2 : Int × Int × List (D162) × Unit) : Option (Int × List (D162) × Unit) :=
 (cond (decide (x2.2.1 < (((List.length x2.2.2.1) : Nat) : Int)))
 (Option.bind (F40 x2.1) fun y4 =>
 (gd (decide ((0 : Int) ≤ x2.2.1))
 (gd (decide (x2.2.1 < (((List.length x2.2.2.1) : Nat) : Int)))
 (Option.bind x2.2.2.1[(Int.toNat x2.2.1)]? fun y5 =>
 (gd (decide ((0 : Int) ≤ x2.2.1))
 (gd (decide (x2.2.1 < (((List.length (List.set x2.2.2.1 (Int.toNat x2.2.1) ((y4.1, y5.1.2), y5.2))) : Nat) : Int)))
 (Option.bind (List.set x2.2.2.1 (Int.toNat x2.2.1) ((y4.1, y5.1.2), y5.2))[(Int.toNat x2.2.1)]? fun y6 =>
 (gd (decide ((0 : Int) ≤ x2.2.1))
 (gd (decide (x2.2.1 < (((List.length (List.set (List.set x2.2.2.1 (Int.toNat x2.2.1) ((y4.1, y5.1.2), y5.2)) (Int.toNat x2.2.1) ((y6.1.1, ((IntKind.wrap IntKind.i64 (x2.1 + (1 : Int))), y6.1.2.2)), y6.2))) : Nat) : Int)))
 (Option.bind (List.set (List.set x2.2.2.1 (Int.toNat x2.2.1) ((y4.1, y5.1.2), y5.2)) (Int.toNat x2.2.1) ((y6.1.1, ((IntKind.wrap IntKind.i64 (x2.1 + (1 : Int))), y6.1.2.2)), y6.2))[(Int.toNat x2.2.1)]? fun y7 =>
 (gd (decide ((0 : Int) ≤ x2.2.1))
 (gd (decide (x2.2.1 < (((List.length (List.set (List.set (List.set x2.2.2.1 (Int.toNat x2.2.1) ((y4.1, y5.1.2), y5.2)) (Int.toNat x2.2.1) ((y6.1.1, ((IntKind.wrap IntKind.i64 (x2.1 + (1 : Int))), y6.1.2.2)), y6.2)) (Int.toNat x2.2.1) ((y7.1.1, (y7.1.2.1, (((Int.tmod (IntKind.wrap IntKind.i64 ((IntKind.wrap IntKind.i64 (x2.1 + (1 : Int))) + (1 : Int))) (3 : Int)) == (0 : Int)), y7.1.2.2.2))), y7.2))) : Nat) : Int)))
 (Option.bind (List.set (List.set (List.set x2.2.2.1 (Int.toNat x2.2.1) ((y4.1, y5.1.2), y5.2)) (Int.toNat x2.2.1) ((y6.1.1, ((IntKind.wrap IntKind.i64 (x2.1 + (1 : Int))), y6.1.2.2)), y6.2)) (Int.toNat x2.2.1) ((y7.1.1, (y7.1.2.1, (((Int.tmod (IntKind.wrap IntKind.i64 ((IntKind.wrap IntKind.i64 (x2.1 + (1 : Int))) + (1 : Int))) (3 : Int)) == (0 : Int)), y7.1.2.2.2))), y7.2))[(Int.toNat x2.2.1)]? fun y8 =>
 (gd (decide ((0 : Int) ≤ x2.2.1))
 (gd (decide (x2.2.1 < (((List.length (List.set (List.set (List.set (List.set x2.2.2.1 (Int.toNat x2.2.1) ((y4.1, y5.1.2), y5.2)) (Int.toNat x2.2.1) ((y6.1.1, ((IntKind.wrap IntKind.i64 (x2.1 + (1 : Int))), y6.1.2.2)), y6.2)) (Int.toNat x2.2.1) ((y7.1.1, (y7.1.2.1, (((Int.tmod (IntKind.wrap IntKind.i64 ((IntKind.wrap IntKind.i64 (x2.1 + (1 : Int))) + (1 : Int))) (3 : Int)) == (0 : Int)), y7.1.2.2.2))), y7.2)) (Int.toNat x2.2.1) ((y8.1.1, (y8.1.2.1, (y8.1.2.2.1, (((IntKind.wrap IntKind.i64 ((IntKind.wrap IntKind.i64 ((IntKind.wrap IntKind.i64 (x2.1 + (1 : Int))) + (1 : Int))) + (1 : Int))), y8.1.2.2.2.1.2), y8.1.2.2.2.2)))), y8.2))) : Nat) : Int)))
 (Option.bind (List.set (List.set (List.set (List.set x2.2.2.1 (Int.toNat x2.2.1) ((y4.1, y5.1.2), y5.2)) (Int.toNat x2.2.1) ((y6.1.1, ((IntKind.wrap IntKind.i64 (x2.1 + (1 : Int))), y6.1.2.2)), y6.2)) (Int.toNat x2.2.1) ((y7.1.1, (y7.1.2.1, (((Int.tmod (IntKind.wrap IntKind.i64 ((IntKind.wrap IntKind.i64 (x2.1 + (1 : Int))) + (1 : Int))) (3 : Int)) == (0 : Int)), y7.1.2.2.2))), y7.2)) (Int.toNat x2.2.1) ((y8.1.1, (y8.1.2.1, (y8.1.2.2.1, (((IntKind.wrap IntKind.i64 ((IntKind.wrap IntKind.i64 ((IntKind.wrap IntKind.i64 (x2.1 + (1 : Int))) + (1 : Int))) + (1 : Int))), y8.1.2.2.2.1.2), y8.1.2.2.2.2)))), y8.2))[(Int.toNat x2.2.1)]? fun y9 =>
 (Option.bind (F40 (IntKind.wrap IntKind.i64 ((IntKind.wrap IntKind.i64 ((IntKind.wrap IntKind.i64 ((IntKind.wrap IntKind.i64 ((IntKind.wrap IntKind.i64 (x2.1 + (1 : Int))) + (1 : Int))) + (1 : Int))) + (1 : Int))) + (1 : Int)))) fun y10 =>
 (gd (decide ((0 : Int) ≤ x2.2.1))
 (gd (decide (x2.2.1 < (((List.length (List.set (List.set (List.set (List.set (List.set x2.2.2.1 (Int.toNat x2.2.1) ((y4.1, y5.1.2), y5.2)) (Int.toNat x2.2.1) ((y6.1.1, ((IntKind.wrap IntKind.i64 (x2.1 + (1 : Int))), y6.1.2.2)), y6.2)) (Int.toNat x2.2.1) ((y7.1.1, (y7.1.2.1, (((Int.tmod (IntKind.wrap IntKind.i64 ((IntKind.wrap IntKind.i64 (x2.1 + (1 : Int))) + (1 : Int))) (3 : Int)) == (0 : Int)), y7.1.2.2.2))), y7.2)) (Int.toNat x2.2.1) ((y8.1.1, (y8.1.2.1, (y8.1.2.2.1, (((IntKind.wrap IntKind.i64 ((IntKind.wrap IntKind.i64 ((IntKind.wrap IntKind.i64 (x2.1 + (1 : Int))) + (1 : Int))) + (1 : Int))), y8.1.2.2.2.1.2), y8.1.2.2.2.2)))), y8.2)) (Int.toNat x2.2.1) ((y9.1.1, (y9.1.2.1, (y9.1.2.2.1, ((y9.1.2.2.2.1.1, ((IntKind.wrap IntKind.i64 ((IntKind.wrap IntKind.i64 ((IntKind.wrap IntKind.i64 ((IntKind.wrap IntKind.i64 (x2.1 + (1 : Int))) + (1 : Int))) + (1 : Int))) + (1 : Int))), y9.1.2.2.2.1.2.2)), y9.1.2.2.2.2)))), y9.2))) : Nat) : Int)))
 (Option.bind (List.set (List.set (List.set (List.set (List.set x2.2.2.1 (Int.toNat x2.2.1) ((y4.1, y5.1.2), y5.2)) (Int.toNat x2.2.1) ((y6.1.1, ((IntKind.wrap IntKind.i64 (x2.1 + (1 : Int))), y6.1.2.2)), y6.2)) (Int.toNat x2.2.1) ((y7.1.1, (y7.1.2.1, (((Int.tmod (IntKind.wrap IntKind.i64 ((IntKind.wrap IntKind.i64 (x2.1 + (1 : Int))) + (1 : Int))) (3 : Int)) == (0 : Int)), y7.1.2.2.2))), y7.2)) (Int.toNat x2.2.1) ((y8.1.1, (y8.1.2.1, (y8.1.2.2.1, (((IntKind.wrap IntKind.i64 ((IntKind.wrap IntKind.i64 ((IntKind.wrap IntKind.i64 (x2.1 + (1 : Int))) + (1 : Int))) + (1 : Int))), y8.1.2.2.2.1.2), y8.1.2.2.2.2)))), y8.2)) (Int.toNat x2.2.1) ((y9.1.1, (y9.1.2.1, (y9.1.2.2.1, ((y9.1.2.2.2.1.1, ((IntKind.wrap IntKind.i64 ((IntKind.wrap IntKind.i64 ((IntKind.wrap IntKind.i64 ((IntKind.wrap IntKind.i64 (x2.1 + (1 : Int))) + (1 : Int))) + (1 : Int))) + (1 : Int))), y9.1.2.2.2.1.2.2)), y9.1.2.2.2.2)))), y9.2))[(Int.toNat x2.2.1)]? fun y11 =>
 (gd (decide ((0 : Int) ≤ x2.2.1))
 (gd (decide (x2.2.1 < (((List.length (List.set (List.set (List.set (List.set (List.set (List.set x2.2.2.1 (Int.toNat x2.2.1) ((y4.1, y5.1.2), y5.2)) (Int.toNat x2.2.1) ((y6.1.1, ((IntKind.wrap IntKind.i64 (x2.1 + (1 : Int))), y6.1.2.2)), y6.2)) (Int.toNat x2.2.1) ((y7.1.1, (y7.1.2.1, (((Int.tmod (IntKind.wrap IntKind.i64 ((IntKind.wrap IntKind.i64 (x2.1 + (1 : Int))) + (1 : Int))) (3 : Int)) == (0 : Int)), y7.1.2.2.2))), y7.2)) (Int.toNat x2.2.1) ((y8.1.1, (y8.1.2.1, (y8.1.2.2.1, (((IntKind.wrap IntKind.i64 ((IntKind.wrap IntKind.i64 ((IntKind.wrap IntKind.i64 (x2.1 + (1 : Int))) + (1 : Int))) + (1 : Int))), y8.1.2.2.2.1.2), y8.1.2.2.2.2)))), y8.2)) (Int.toNat x2.2.1) ((y9.1.1, (y9.1.2.1, (y9.1.2.2.1, ((y9.1.2.2.2.1.1, ((IntKind.wrap IntKind.i64 ((IntKind.wrap IntKind.i64 ((IntKind.wrap IntKind.i64 ((IntKind.wrap IntKind.i64 (x2.1 + (1 : Int))) + (1 : Int))) + (1 : Int))) + (1 : Int))), y9.1.2.2.2.1.2.2)), y9.1.2.2.2.2)))), y9.2)) (Int.toNat x2.2.1) ((y11.1.1, (y11.1.2.1, (y11.1.2.2.1, ((y11.1.2.2.2.1.1, (y11.1.2.2.2.1.2.1, (y10.1, y11.1.2.2.2.1.2.2.2))), y11.1.2.2.2.2)))), y11.2))) : Nat) : Int)))
 (Option.bind (List.set (List.set (List.set (List.set (List.set (List.set x2.2.2.1 (Int.toNat x2.2.1) ((y4.1, y5.1.2), y5.2)) (Int.toNat x2.2.1) ((y6.1.1, ((IntKind.wrap IntKind.i64 (x2.1 + (1 : Int))), y6.1.2.2)), y6.2)) (Int.toNat x2.2.1) ((y7.1.1, (y7.1.2.1, (((Int.tmod (IntKind.wrap IntKind.i64 ((IntKind.wrap IntKind.i64 (x2.1 + (1 : Int))) + (1 : Int))) (3 : Int)) == (0 : Int)), y7.1.2.2.2))), y7.2)) (Int.toNat x2.2.1) ((y8.1.1, (y8.1.2.1, (y8.1.2.2.1, (((IntKind.wrap IntKind.i64 ((IntKind.wrap IntKind.i64 ((IntKind.wrap IntKind.i64 (x2.1 + (1 : Int))) + (1 : Int))) + (1 : Int))), y8.1.2.2.2.1.2), y8.1.2.2.2.2)))), y8.2)) (Int.toNat x2.2.1) ((y9.1.1, (y9.1.2.1, (y9.1.2.2.1, ((y9.1.2.2.2.1.1, ((IntKind.wrap IntKind.i64 ((IntKind.wrap IntKind.i64 ((IntKind.wrap IntKind.i64 ((IntKind.wrap IntKind.i64 (x2.1 + (1 : Int))) + (1 : Int))) + (1 : Int))) + (1 : Int))), y9.1.2.2.2.1.2.2)), y9.1.2.2.2.2)))), y9.2)) (Int.toNat x2.2.1) ((y11.1.1, (y11.1.2.1, (y11.1.2.2.1, ((y11.1.2.2.2.1.1, (y11.1.2.2.2.1.2.1, (y10.1, y11.1.2.2.2.1.2.2.2))), y11.1.2.2.2.2)))), y11.2))[(Int.toNat x2.2.1)]? fun y12 =>
 (gd (decide ((0 : Int) ≤ x2.2.1))
 (gd (decide (x2.2.1 < (((List.length (List.set (List.set (List.set (List.set (List.set (List.set (List.set x2.2.2.1 (Int.toNat x2.2.1) ((y4.1, y5.1.2), y5.2)) (Int.toNat x2.2.1) ((y6.1.1, ((IntKind.wrap IntKind.i64 (x2.1 + (1 : Int))), y6.1.2.2)), y6.2)) (Int.toNat x2.2.1) ((y7.1.1, (y7.1.2.1, (((Int.tmod (IntKind.wrap IntKind.i64 ((IntKind.wrap IntKind.i64 (x2.1 + (1 : Int))) + (1 : Int))) (3 : Int)) == (0 : Int)), y7.1.2.2.2))), y7.2)) (Int.toNat x2.2.1) ((y8.1.1, (y8.1.2.1, (y8.1.2.2.1, (((IntKind.wrap IntKind.i64 ((IntKind.wrap IntKind.i64 ((IntKind.wrap IntKind.i64 (x2.1 + (1 : Int))) + (1 : Int))) + (1 : Int))), y8.1.2.2.2.1.2), y8.1.2.2.2.2)))), y8.2)) (Int.toNat x2.2.1) ((y9.1.1, (y9.1.2.1, (y9.1.2.2.1, ((y9.1.2.2.2.1.1, ((IntKind.wrap IntKind.i64 ((IntKind.wrap IntKind.i64 ((IntKind.wrap IntKind.i64 ((IntKind.wrap IntKind.i64 (x2.1 + (1 : Int))) + (1 : Int))) + (1 : Int))) + (1 : Int))), y9.1.2.2.2.1.2.2)), y9.1.2.2.2.2)))), y9.2)) (Int.toNat x2.2.1) ((y11.1.1, (y11.1.2.1, (y11.1.2.2.1, ((y11.1.2.2.2.1.1, (y11.1.2.2.2.1.2.1, (y10.1, y11.1.2.2.2.1.2.2.2))), y11.1.2.2.2.2)))), y11.2)) (Int.toNat x2.2.1) (y12.1, (((IntKind.wrap IntKind.i64 ((IntKind.wrap IntKind.i64 ((IntKind.wrap IntKind.i64 ((IntKind.wrap IntKind.i64 ((IntKind.wrap IntKind.i64 ((IntKind.wrap IntKind.i64 (x2.1 + (1 : Int))) + (1 : Int))) + (1 : Int))) + (1 : Int))) + (1 : Int))) + (1 : Int))), y12.2.1.2), y12.2.2)))) : Nat) : Int)))
 (Option.bind (List.set (List.set (List.set (List.set (List.set (List.set (List.set x2.2.2.1 (Int.toNat x2.2.1) ((y4.1, y5.1.2), y5.2)) (Int.toNat x2.2.1) ((y6.1.1, ((IntKind.wrap IntKind.i64 (x2.1 + (1 : Int))), y6.1.2.2)), y6.2)) (Int.toNat x2.2.1) ((y7.1.1, (y7.1.2.1, (((Int.tmod (IntKind.wrap IntKind.i64 ((IntKind.wrap IntKind.i64 (x2.1 + (1 : Int))) + (1 : Int))) (3 : Int)) == (0 : Int)), y7.1.2.2.2))), y7.2)) (Int.toNat x2.2.1) ((y8.1.1, (y8.1.2.1, (y8.1.2.2.1, (((IntKind.wrap IntKind.i64 ((IntKind.wrap IntKind.i64 ((IntKind.wrap IntKind.i64 (x2.1 + (1 : Int))) + (1 : Int))) + (1 : Int))), y8.1.2.2.2.1.2), y8.1.2.2.2.2)))), y8.2)) (Int.toNat x2.2.1) ((y9.1.1, (y9.1.2.1, (y9.1.2.2.1, ((y9.1.2.2.2.1.1, ((IntKind.wrap IntKind.i64 ((IntKind.wrap IntKind.i64 ((IntKind.wrap IntKind.i64 ((IntKind.wrap IntKind.i64 (x2.1 + (1 : Int))) + (1 : Int))) + (1 : Int))) + (1 : Int))), y9.1.2.2.2.1.2.2)), y9.1.2.2.2.2)))), y9.2)) (Int.toNat x2.2.1) ((y11.1.1, (y11.1.2.1, (y11.1.2.2.1, ((y11.1.2.2.2.1.1, (y11.1.2.2.2.1.2.1, (y10.1, y11.1.2.2.2.1.2.2.2))), y11.1.2.2.2.2)))), y11.2)) (Int.toNat x2.2.1) (y12.1, (((IntKind.wrap IntKind.i64 ((IntKind.wrap IntKind.i64 ((IntKind.wrap IntKind.i64 ((IntKind.wrap IntKind.i64 ((IntKind.wrap IntKind.i64 ((IntKind.wrap IntKind.i64 (x2.1 + (1 : Int))) + (1 : Int))) + (1 : Int))) + (1 : Int))) + (1 : Int))) + (1 : Int))), y12.2.1.2), y12.2.2)))[(Int.toNat x2.2.1)]? fun y13 =>
 (Option.bind (F40 (IntKind.wrap IntKind.i64 ((IntKind.wrap IntKind.i64 ((IntKind.wrap IntKind.i64 ((IntKind.wrap IntKind.i64 ((IntKind.wrap IntKind.i64 ((IntKind.wrap IntKind.i64 ((IntKind.wrap IntKind.i64 ((IntKind.wrap IntKind.i64 (x2.1 + (1 : Int))) + (1 : Int))) + (1 : Int))) + (1 : Int))) + (1 : Int))) + (1 : Int))) + (1 : Int))) + (1 : Int)))) fun y14 =>
 (gd (decide ((0 : Int) ≤ x2.2.1))
 (gd (decide (x2.2.1 < (((List.length (List.set (List.set (List.set (List.set (List.set (List.set (List.set (List.set x2.2.2.1 (Int.toNat x2.2.1) ((y4.1, y5.1.2), y5.2)) (Int.toNat x2.2.1) ((y6.1.1, ((IntKind.wrap IntKind.i64 (x2.1 + (1 : Int))), y6.1.2.2)), y6.2)) (Int.toNat x2.2.1) ((y7.1.1, (y7.1.2.1, (((Int.tmod (IntKind.wrap IntKind.i64 ((IntKind.wrap IntKind.i64 (x2.1 + (1 : Int))) + (1 : Int))) (3 : Int)) == (0 : Int)), y7.1.2.2.2))), y7.2)) (Int.toNat x2.2.1) ((y8.1.1, (y8.1.2.1, (y8.1.2.2.1, (((IntKind.wrap IntKind.i64 ((IntKind.wrap IntKind.i64 ((IntKind.wrap IntKind.i64 (x2.1 + (1 : Int))) + (1 : Int))) + (1 : Int))), y8.1.2.2.2.1.2), y8.1.2.2.2.2)))), y8.2)) (Int.toNat x2.2.1) ((y9.1.1, (y9.1.2.1, (y9.1.2.2.1, ((y9.1.2.2.2.1.1, ((IntKind.wrap IntKind.i64 ((IntKind.wrap IntKind.i64 ((IntKind.wrap IntKind.i64 ((IntKind.wrap IntKind.i64 (x2.1 + (1 : Int))) + (1 : Int))) + (1 : Int))) + (1 : Int))), y9.1.2.2.2.1.2.2)), y9.1.2.2.2.2)))), y9.2)) (Int.toNat x2.2.1) ((y11.1.1, (y11.1.2.1, (y11.1.2.2.1, ((y11.1.2.2.2.1.1, (y11.1.2.2.2.1.2.1, (y10.1, y11.1.2.2.2.1.2.2.2))), y11.1.2.2.2.2)))), y11.2)) (Int.toNat x2.2.1) (y12.1, (((IntKind.wrap IntKind.i64 ((IntKind.wrap IntKind.i64 ((IntKind.wrap IntKind.i64 ((IntKind.wrap IntKind.i64 ((IntKind.wrap IntKind.i64 ((IntKind.wrap IntKind.i64 (x2.1 + (1 : Int))) + (1 : Int))) + (1 : Int))) + (1 : Int))) + (1 : Int))) + (1 : Int))), y12.2.1.2), y12.2.2))) (Int.toNat x2.2.1) (y13.1, ((y13.2.1.1, ((IntKind.wrap IntKind.i64 ((IntKind.wrap IntKind.i64 ((IntKind.wrap IntKind.i64 ((IntKind.wrap IntKind.i64 ((IntKind.wrap IntKind.i64 ((IntKind.wrap IntKind.i64 ((IntKind.wrap IntKind.i64 (x2.1 + (1 : Int))) + (1 : Int))) + (1 : Int))) + (1 : Int))) + (1 : Int))) + (1 : Int))) + (1 : Int))), y13.2.1.2.2)), y13.2.2)))) : Nat) : Int)))
 (Option.bind (List.set (List.set (List.set (List.set (List.set (List.set (List.set (List.set x2.2.2.1 (Int.toNat x2.2.1) ((y4.1, y5.1.2), y5.2)) (Int.toNat x2.2.1) ((y6.1.1, ((IntKind.wrap IntKind.i64 (x2.1 + (1 : Int))), y6.1.2.2)), y6.2)) (Int.toNat x2.2.1) ((y7.1.1, (y7.1.2.1, (((Int.tmod (IntKind.wrap IntKind.i64 ((IntKind.wrap IntKind.i64 (x2.1 + (1 : Int))) + (1 : Int))) (3 : Int)) == (0 : Int)), y7.1.2.2.2))), y7.2)) (Int.toNat x2.2.1) ((y8.1.1, (y8.1.2.1, (y8.1.2.2.1, (((IntKind.wrap IntKind.i64 ((IntKind.wrap IntKind.i64 ((IntKind.wrap IntKind.i64 (x2.1 + (1 : Int))) + (1 : Int))) + (1 : Int))), y8.1.2.2.2.1.2), y8.1.2.2.2.2)))), y8.2)) (Int.toNat x2.2.1) ((y9.1.1, (y9.1.2.1, (y9.1.2.2.1, ((y9.1.2.2.2.1.1, ((IntKind.wrap IntKind.i64 ((IntKind.wrap IntKind.i64 ((IntKind.wrap IntKind.i64 ((IntKind.wrap IntKind.i64 (x2.1 + (1 : Int))) + (1 : Int))) + (1 : Int))) + (1 : Int))), y9.1.2.2.2.1.2.2)), y9.1.2.2.2.2)))), y9.2)) (Int.toNat x2.2.1) ((y11.1.1, (y11.1.2.1, (y11.1.2.2.1, ((y11.1.2.2.2.1.1, (y11.1.2.2.2.1.2.1, (y10.1, y11.1.2.2.2.1.2.2.2))), y11.1.2.2.2.2)))), y11.2)) (Int.toNat x2.2.1) (y12.1, (((IntKind.wrap IntKind.i64 ((IntKind.wrap IntKind.i64 ((IntKind.wrap IntKind.i64 ((IntKind.wrap IntKind.i64 ((IntKind.wrap IntKind.i64 ((IntKind.wrap IntKind.i64 (x2.1 + (1 : Int))) + (1 : Int))) + (1 : Int))) + (1 : Int))) + (1 : Int))) + (1 : Int))), y12.2.1.2), y12.2.2))) (Int.toNat x2.2.1) (y13.1, ((y13.2.1.1, ((IntKind.wrap IntKind.i64 ((IntKind.wrap IntKind.i64 ((IntKind.wrap IntKind.i64 ((IntKind.wrap IntKind.i64 ((IntKind.wrap IntKind.i64 ((IntKind.wrap IntKind.i64 ((IntKind.wrap IntKind.i64 (x2.1 + (1 : Int))) + (1 : Int))) + (1 : Int))) + (1 : Int))) + (1 : Int))) + (1 : Int))) + (1 : Int))), y13.2.1.2.2)), y13.2.2)))[(Int.toNat x2.2.1)]? fun y15 =>
 (gd (decide ((0 : Int) ≤ x2.2.1))
 (gd (decide (x2.2.1 < (((List.length (List.set (List.set (List.set (List.set (List.set (List.set (List.set (List.set (List.set x2.2.2.1 (Int.toNat x2.2.1) ((y4.1, y5.1.2), y5.2)) (Int.toNat x2.2.1) ((y6.1.1, ((IntKind.wrap IntKind.i64 (x2.1 + (1 : Int))), y6.1.2.2)), y6.2)) (Int.toNat x2.2.1) ((y7.1.1, (y7.1.2.1, (((Int.tmod (IntKind.wrap IntKind.i64 ((IntKind.wrap IntKind.i64 (x2.1 + (1 : Int))) + (1 : Int))) (3 : Int)) == (0 : Int)), y7.1.2.2.2))), y7.2)) (Int.toNat x2.2.1) ((y8.1.1, (y8.1.2.1, (y8.1.2.2.1, (((IntKind.wrap IntKind.i64 ((IntKind.wrap IntKind.i64 ((IntKind.wrap IntKind.i64 (x2.1 + (1 : Int))) + (1 : Int))) + (1 : Int))), y8.1.2.2.2.1.2), y8.1.2.2.2.2)))), y8.2)) (Int.toNat x2.2.1) ((y9.1.1, (y9.1.2.1, (y9.1.2.2.1, ((y9.1.2.2.2.1.1, ((IntKind.wrap IntKind.i64 ((IntKind.wrap IntKind.i64 ((IntKind.wrap IntKind.i64 ((IntKind.wrap IntKind.i64 (x2.1 + (1 : Int))) + (1 : Int))) + (1 : Int))) + (1 : Int))), y9.1.2.2.2.1.2.2)), y9.1.2.2.2.2)))), y9.2)) (Int.toNat x2.2.1) ((y11.1.1, (y11.1.2.1, (y11.1.2.2.1, ((y11.1.2.2.2.1.1, (y11.1.2.2.2.1.2.1, (y10.1, y11.1.2.2.2.1.2.2.2))), y11.1.2.2.2.2)))), y11.2)) (Int.toNat x2.2.1) (y12.1, (((IntKind.wrap IntKind.i64 ((IntKind.wrap IntKind.i64 ((IntKind.wrap IntKind.i64 ((IntKind.wrap IntKind.i64 ((IntKind.wrap IntKind.i64 ((IntKind.wrap IntKind.i64 (x2.1 + (1 : Int))) + (1 : Int))) + (1 : Int))) + (1 : Int))) + (1 : Int))) + (1 : Int))), y12.2.1.2), y12.2.2))) (Int.toNat x2.2.1) (y13.1, ((y13.2.1.1, ((IntKind.wrap IntKind.i64 ((IntKind.wrap IntKind.i64 ((IntKind.wrap IntKind.i64 ((IntKind.wrap IntKind.i64 ((IntKind.wrap IntKind.i64 ((IntKind.wrap IntKind.i64 ((IntKind.wrap IntKind.i64 (x2.1 + (1 : Int))) + (1 : Int))) + (1 : Int))) + (1 : Int))) + (1 : Int))) + (1 : Int))) + (1 : Int))), y13.2.1.2.2)), y13.2.2))) (Int.toNat x2.2.1) (y15.1, ((y15.2.1.1, (y15.2.1.2.1, (y14.1, y15.2.1.2.2.2))), y15.2.2)))) : Nat) : Int)))
 (Option.bind (List.set (List.set (List.set (List.set (List.set (List.set (List.set (List.set (List.set x2.2.2.1 (Int.toNat x2.2.1) ((y4.1, y5.1.2), y5.2)) (Int.toNat x2.2.1) ((y6.1.1, ((IntKind.wrap IntKind.i64 (x2.1 + (1 : Int))), y6.1.2.2)), y6.2)) (Int.toNat x2.2.1) ((y7.1.1, (y7.1.2.1, (((Int.tmod (IntKind.wrap IntKind.i64 ((IntKind.wrap IntKind.i64 (x2.1 + (1 : Int))) + (1 : Int))) (3 : Int)) == (0 : Int)), y7.1.2.2.2))), y7.2)) (Int.toNat x2.2.1) ((y8.1.1, (y8.1.2.1, (y8.1.2.2.1, (((IntKind.wrap IntKind.i64 ((IntKind.wrap IntKind.i64 ((IntKind.wrap IntKind.i64 (x2.1 + (1 : Int))) + (1 : Int))) + (1 : Int))), y8.1.2.2.2.1.2), y8.1.2.2.2.2)))), y8.2)) (Int.toNat x2.2.1) ((y9.1.1, (y9.1.2.1, (y9.1.2.2.1, ((y9.1.2.2.2.1.1, ((IntKind.wrap IntKind.i64 ((IntKind.wrap IntKind.i64 ((IntKind.wrap IntKind.i64 ((IntKind.wrap IntKind.i64 (x2.1 + (1 : Int))) + (1 : Int))) + (1 : Int))) + (1 : Int))), y9.1.2.2.2.1.2.2)), y9.1.2.2.2.2)))), y9.2)) (Int.toNat x2.2.1) ((y11.1.1, (y11.1.2.1, (y11.1.2.2.1, ((y11.1.2.2.2.1.1, (y11.1.2.2.2.1.2.1, (y10.1, y11.1.2.2.2.1.2.2.2))), y11.1.2.2.2.2)))), y11.2)) (Int.toNat x2.2.1) (y12.1, (((IntKind.wrap IntKind.i64 ((IntKind.wrap IntKind.i64 ((IntKind.wrap IntKind.i64 ((IntKind.wrap IntKind.i64 ((IntKind.wrap IntKind.i64 ((IntKind.wrap IntKind.i64 (x2.1 + (1 : Int))) + (1 : Int))) + (1 : Int))) + (1 : Int))) + (1 : Int))) + (1 : Int))), y12.2.1.2), y12.2.2))) (Int.toNat x2.2.1) (y13.1, ((y13.2.1.1, ((IntKind.wrap IntKind.i64 ((IntKind.wrap IntKind.i64 ((IntKind.wrap IntKind.i64 ((IntKind.wrap IntKind.i64 ((IntKind.wrap IntKind.i64 ((IntKind.wrap IntKind.i64 ((IntKind.wrap IntKind.i64 (x2.1 + (1 : Int))) + (1 : Int))) + (1 : Int))) + (1 : Int))) + (1 : Int))) + (1 : Int))) + (1 : Int))), y13.2.1.2.2)), y13.2.2))) (Int.toNat x2.2.1) (y15.1, ((y15.2.1.1, (y15.2.1.2.1, (y14.1, y15.2.1.2.2.2))), y15.2.2)))[(Int.toNat x2.2.1)]? fun y16 =>
 (rec ((IntKind.wrap IntKind.i64 ((IntKind.wrap IntKind.i64 ((IntKind.wrap IntKind.i64 ((IntKind.wrap IntKind.i64 ((IntKind.wrap IntKind.i64 ((IntKind.wrap IntKind.i64 ((IntKind.wrap IntKind.i64 ((IntKind.wrap IntKind.i64 ((IntKind.wrap IntKind.i64 ((IntKind.wrap IntKind.i64 (x2.1 + (1 : Int))) + (1 : Int))) + (1 : Int))) + (1 : Int))) + (1 : Int))) + (1 : Int))) + (1 : Int))) + (1 : Int))) + (1 : Int))) + (1 : Int))), (IntKind.wrap IntKind.i64 (x2.2.1 + (1 : Int))), (List.set (List.set (List.set (List.set (List.set (List.set (List.set (List.set (List.set (List.set x2.2.2.1 (Int.toNat x2.2.1) ((y4.1, y5.1.2), y5.2)) (Int.toNat x2.2.1) ((y6.1.1, ((IntKind.wrap IntKind.i64 (x2.1 + (1 : Int))), y6.1.2.2)), y6.2)) (Int.toNat x2.2.1) ((y7.1.1, (y7.1.2.1, (((Int.tmod (IntKind.wrap IntKind.i64 ((IntKind.wrap IntKind.i64 (x2.1 + (1 : Int))) + (1 : Int))) (3 : Int)) == (0 : Int)), y7.1.2.2.2))), y7.2)) (Int.toNat x2.2.1) ((y8.1.1, (y8.1.2.1, (y8.1.2.2.1, (((IntKind.wrap IntKind.i64 ((IntKind.wrap IntKind.i64 ((IntKind.wrap IntKind.i64 (x2.1 + (1 : Int))) + (1 : Int))) + (1 : Int))), y8.1.2.2.2.1.2), y8.1.2.2.2.2)))), y8.2)) (Int.toNat x2.2.1) ((y9.1.1, (y9.1.2.1, (y9.1.2.2.1, ((y9.1.2.2.2.1.1, ((IntKind.wrap IntKind.i64 ((IntKind.wrap IntKind.i64 ((IntKind.wrap IntKind.i64 ((IntKind.wrap IntKind.i64 (x2.1 + (1 : Int))) + (1 : Int))) + (1 : Int))) + (1 : Int))), y9.1.2.2.2.1.2.2)), y9.1.2.2.2.2)))), y9.2)) (Int.toNat x2.2.1) ((y11.1.1, (y11.1.2.1, (y11.1.2.2.1, ((y11.1.2.2.2.1.1, (y11.1.2.2.2.1.2.1, (y10.1, y11.1.2.2.2.1.2.2.2))), y11.1.2.2.2.2)))), y11.2)) (Int.toNat x2.2.1) (y12.1, (((IntKind.wrap IntKind.i64 ((IntKind.wrap IntKind.i64 ((IntKind.wrap IntKind.i64 ((IntKind.wrap IntKind.i64 ((IntKind.wrap IntKind.i64 ((IntKind.wrap IntKind.i64 (x2.1 + (1 : Int))) + (1 : Int))) + (1 : Int))) + (1 : Int))) + (1 : Int))) + (1 : Int))), y12.2.1.2), y12.2.2))) (Int.toNat x2.2.1) (y13.1, ((y13.2.1.1, ((IntKind.wrap IntKind.i64 ((IntKind.wrap IntKind.i64 ((IntKind.wrap IntKind.i64 ((IntKind.wrap IntKind.i64 ((IntKind.wrap IntKind.i64 ((IntKind.wrap IntKind.i64 ((IntKind.wrap IntKind.i64 (x2.1 + (1 : Int))) + (1 : Int))) + (1 : Int))) + (1 : Int))) + (1 : Int))) + (1 : Int))) + (1 : Int))), y13.2.1.2.2)), y13.2.2))) (Int.toNat x2.2.1) (y15.1, ((y15.2.1.1, (y15.2.1.2.1, (y14.1, y15.2.1.2.2.2))), y15.2.2))) (Int.toNat x2.2.1) (y16.1, (y16.2.1, (((Int.tmod (IntKind.wrap IntKind.i64 ((IntKind.wrap IntKind.i64 ((IntKind.wrap IntKind.i64 ((IntKind.wrap IntKind.i64 ((IntKind.wrap IntKind.i64 ((IntKind.wrap IntKind.i64 ((IntKind.wrap IntKind.i64 ((IntKind.wrap IntKind.i64 ((IntKind.wrap IntKind.i64 (x2.1 + (1 : Int))) + (1 : Int))) + (1 : Int))) + (1 : Int))) + (1 : Int))) + (1 : Int))) + (1 : Int))) + (1 : Int))) + (1 : Int))) (3 : Int)) == (0 : Int)), y16.2.2.2)))), ())))))))))))))))))))))))))))))))))))
 (e0_0 (x2.1, x2.2.2.1, ())))
noncomputable def F66 (a0 : List (D162)) (a1 : Int) : Option (Int × List (D162) × Unit) :=
 (iter (F66_R2
 (fun y17 =>
 (some (y17.1, (y17.2.1, ()))))) fuel (a1, (0 : Int), a0, ()))
noncomputable def C66 : Fun := ⟨[(.io (.slice Y162) (.own .z)), (.ro (.int .i64))], [((.int .i64), .z)], fun z => F66 z.1 z.2.1⟩
noncomputable def E66 : Env := ⟨102, tyTab tys, oneTab ones, fnTab [(40, C40)], false, [], [(2, [0, 1, 5], [4]), (4, [0, 1, 5], [4]), (24, [1], [4]), (100000, [1], [4]), (100001, [0, 1, 5], [4]), (99999, [4], [4])], none, [], []⟩
noncomputable def L66 : List (LoopS (Int × List (D162) × Unit)) := [⟨2, ⟨[(0, (.ref (.slice Y162) 4 [])), (1, (.pv (.int .i64))), (5, (.pv (.int .i64)))], [(4, (.data false (.slice Y162) (.own .z)))]⟩, fun κ => F66_R2 (fun y => κ.exit 0 (SSh.mk' ⟨[(1, (.pv (.int .i64)))], [(4, (.data false (.slice Y162) (.own .z)))]⟩ y))⟩]
theorem L66_2 : ∀ p : Option Src, RoundEq { E66 with pin := p } L66 L66[0] (nthLoop (codeOf Tryz.f66) 0) := fun p κ N x => by kernel_rfl
theorem C66_ok : IoOk Tryz.prog 66 C66 := tO E66 L66 [nthLoop (codeOf Tryz.f66) 0] Tryz.func66 ty_ok (.cons C40_ok .nil) (fun p => (.cons L66[0] (by kernel_rfl) (L66_2 p) .nil))
noncomputable def F35_R2 (e0_0 : Int × List (D89) × Unit → Option (Int × List (D89) × Unit)) (rec : Int × Int × List (D89) × Unit → Option (Int × List (D89) × Unit)) (x2 : Int × Int × List (D89) × Unit) : Option (Int × List (D89) × Unit) :=
 (cond (decide (x2.2.1 < (((List.length x2.2.2.1) : Nat) : Int)))
 (gd (decide ((0 : Int) ≤ x2.2.1))
 (gd (decide (x2.2.1 < (((List.length x2.2.2.1) : Nat) : Int)))
 (Option.bind x2.2.2.1[(Int.toNat x2.2.1)]? fun y4 =>
 (gd (decide ((0 : Int) ≤ x2.2.1))
 (gd (decide (x2.2.1 < (((List.length (List.set x2.2.2.1 (Int.toNat x2.2.1) (x2.1, y4.2))) : Nat) : Int)))
 (Option.bind (List.set x2.2.2.1 (Int.toNat x2.2.1) (x2.1, y4.2))[(Int.toNat x2.2.1)]? fun y5 =>
 (gd (decide ((0 : Int) ≤ x2.2.1))
 (gd (decide (x2.2.1 < (((List.length (List.set (List.set x2.2.2.1 (Int.toNat x2.2.1) (x2.1, y4.2)) (Int.toNat x2.2.1) (y5.1, ((IntKind.wrap IntKind.i64 (x2.1 + (1 : Int))), y5.2.2)))) : Nat) : Int)))
 (Option.bind (List.set (List.set x2.2.2.1 (Int.toNat x2.2.1) (x2.1, y4.2)) (Int.toNat x2.2.1) (y5.1, ((IntKind.wrap IntKind.i64 (x2.1 + (1 : Int))), y5.2.2)))[(Int.toNat x2.2.1)]? fun y6 =>
 (Option.bind (List.set (List.set x2.2.2.1 (Int.toNat x2.2.1) (x2.1, y4.2)) (Int.toNat x2.2.1) (y5.1, ((IntKind.wrap IntKind.i64 (x2.1 + (1 : Int))), y5.2.2)))[(Int.toNat x2.2.1)]? fun y7 =>
 (Option.bind (F64 y7.2.2.1 (IntKind.wrap IntKind.i64 ((IntKind.wrap IntKind.i64 (x2.1 + (1 : Int))) + (1 : Int)))) fun y8 =>
 (Option.bind (List.set (List.set x2.2.2.1 (Int.toNat x2.2.1) (x2.1, y4.2)) (Int.toNat x2.2.1) (y5.1, ((IntKind.wrap IntKind.i64 (x2.1 + (1 : Int))), y5.2.2)))[(Int.toNat x2.2.1)]? fun y9 =>
 (gd (decide ((0 : Int) ≤ x2.2.1))
 (gd (decide (x2.2.1 < (((List.length (List.set (List.set (List.set x2.2.2.1 (Int.toNat x2.2.1) (x2.1, y4.2)) (Int.toNat x2.2.1) (y5.1, ((IntKind.wrap IntKind.i64 (x2.1 + (1 : Int))), y5.2.2))) (Int.toNat x2.2.1) (y9.1, (y9.2.1, (y8.2.1, y9.2.2.2))))) : Nat) : Int)))
 (Option.bind (List.set (List.set (List.set x2.2.2.1 (Int.toNat x2.2.1) (x2.1, y4.2)) (Int.toNat x2.2.1) (y5.1, ((IntKind.wrap IntKind.i64 (x2.1 + (1 : Int))), y5.2.2))) (Int.toNat x2.2.1) (y9.1, (y9.2.1, (y8.2.1, y9.2.2.2))))[(Int.toNat x2.2.1)]? fun y10 =>
 (Option.bind (List.set (List.set (List.set x2.2.2.1 (Int.toNat x2.2.1) (x2.1, y4.2)) (Int.toNat x2.2.1) (y5.1, ((IntKind.wrap IntKind.i64 (x2.1 + (1 : Int))), y5.2.2))) (Int.toNat x2.2.1) (y9.1, (y9.2.1, (y8.2.1, y9.2.2.2))))[(Int.toNat x2.2.1)]? fun y11 =>
 (Option.bind (F66 y11.2.2.2.1 y8.1) fun y12 =>
 (Option.bind (List.set (List.set (List.set x2.2.2.1 (Int.toNat x2.2.1) (x2.1, y4.2)) (Int.toNat x2.2.1) (y5.1, ((IntKind.wrap IntKind.i64 (x2.1 + (1 : Int))), y5.2.2))) (Int.toNat x2.2.1) (y9.1, (y9.2.1, (y8.2.1, y9.2.2.2))))[(Int.toNat x2.2.1)]? fun y13 =>
 (gd (decide ((0 : Int) ≤ x2.2.1))
 (gd (decide (x2.2.1 < (((List.length (List.set (List.set (List.set (List.set x2.2.2.1 (Int.toNat x2.2.1) (x2.1, y4.2)) (Int.toNat x2.2.1) (y5.1, ((IntKind.wrap IntKind.i64 (x2.1 + (1 : Int))), y5.2.2))) (Int.toNat x2.2.1) (y9.1, (y9.2.1, (y8.2.1, y9.2.2.2)))) (Int.toNat x2.2.1) (y13.1, (y13.2.1, (y13.2.2.1, (y12.2.1, y13.2.2.2.2)))))) : Nat) : Int)))
 (Option.bind (List.set (List.set (List.set (List.set x2.2.2.1 (Int.toNat x2.2.1) (x2.1, y4.2)) (Int.toNat x2.2.1) (y5.1, ((IntKind.wrap IntKind.i64 (x2.1 + (1 : Int))), y5.2.2))) (Int.toNat x2.2.1) (y9.1, (y9.2.1, (y8.2.1, y9.2.2.2)))) (Int.toNat x2.2.1) (y13.1, (y13.2.1, (y13.2.2.1, (y12.2.1, y13.2.2.2.2)))))[(Int.toNat x2.2.1)]? fun y14 =>
 (gd (decide ((0 : Int) ≤ x2.2.1))
 (gd (decide (x2.2.1 < (((List.length (List.set (List.set (List.set (List.set (List.set x2.2.2.1 (Int.toNat x2.2.1) (x2.1, y4.2)) (Int.toNat x2.2.1) (y5.1, ((IntKind.wrap IntKind.i64 (x2.1 + (1 : Int))), y5.2.2))) (Int.toNat x2.2.1) (y9.1, (y9.2.1, (y8.2.1, y9.2.2.2)))) (Int.toNat x2.2.1) (y13.1, (y13.2.1, (y13.2.2.1, (y12.2.1, y13.2.2.2.2))))) (Int.toNat x2.2.1) (y14.1, (y14.2.1, (y14.2.2.1, (y14.2.2.2.1, (((Int.tmod y12.1 (3 : Int)) == (0 : Int)), y14.2.2.2.2.2))))))) : Nat) : Int)))
 (Option.bind (List.set (List.set (List.set (List.set (List.set x2.2.2.1 (Int.toNat x2.2.1) (x2.1, y4.2)) (Int.toNat x2.2.1) (y5.1, ((IntKind.wrap IntKind.i64 (x2.1 + (1 : Int))), y5.2.2))) (Int.toNat x2.2.1) (y9.1, (y9.2.1, (y8.2.1, y9.2.2.2)))) (Int.toNat x2.2.1) (y13.1, (y13.2.1, (y13.2.2.1, (y12.2.1, y13.2.2.2.2))))) (Int.toNat x2.2.1) (y14.1, (y14.2.1, (y14.2.2.1, (y14.2.2.2.1, (((Int.tmod y12.1 (3 : Int)) == (0 : Int)), y14.2.2.2.2.2))))))[(Int.toNat x2.2.1)]? fun y15 =>
 (rec ((IntKind.wrap IntKind.i64 ((IntKind.wrap IntKind.i64 (y12.1 + (1 : Int))) + (1 : Int))), (IntKind.wrap IntKind.i64 (x2.2.1 + (1 : Int))), (List.set (List.set (List.set (List.set (List.set (List.set x2.2.2.1 (Int.toNat x2.2.1) (x2.1, y4.2)) (Int.toNat x2.2.1) (y5.1, ((IntKind.wrap IntKind.i64 (x2.1 + (1 : Int))), y5.2.2))) (Int.toNat x2.2.1) (y9.1, (y9.2.1, (y8.2.1, y9.2.2.2)))) (Int.toNat x2.2.1) (y13.1, (y13.2.1, (y13.2.2.1, (y12.2.1, y13.2.2.2.2))))) (Int.toNat x2.2.1) (y14.1, (y14.2.1, (y14.2.2.1, (y14.2.2.2.1, (((Int.tmod y12.1 (3 : Int)) == (0 : Int)), y14.2.2.2.2.2)))))) (Int.toNat x2.2.1) (y15.1, (y15.2.1, (y15.2.2.1, (y15.2.2.2.1, (y15.2.2.2.2.1, (((Int.tmod (IntKind.wrap IntKind.i64 (y12.1 + (1 : Int))) (3 : Int)) == (0 : Int)), y15.2.2.2.2.2.2))))))), ()))))))))))))))))))))))))))
 (e0_0 (x2.1, x2.2.2.1, ())))
noncomputable def F35 (a0 : List (D89)) (a1 : Int) : Option (Int × List (D89) × Unit) :=
 (iter (F35_R2
 (fun y16 =>
 (some (y16.1, (y16.2.1, ()))))) fuel (a1, (0 : Int), a0, ()))
noncomputable def C35 : Fun := ⟨[(.io (.slice Y89) (.own (.pr .z (.pr .z (.pr (.own (.pr .z (.pr (.pr (.own (.pr (.own .z) .z)) .z) .z))) (.pr (.own .z) .z)))))), (.ro (.int .i64))], [((.int .i64), .z)], fun z => F35 z.1 z.2.1⟩
noncomputable def E35 : Env := ⟨59, tyTab tys, oneTab ones, fnTab [(64, C64), (66, C66)], false, [], [(2, [0, 1, 5], [4]), (4, [0, 1, 5], [4]), (14, [1], [4]), (100000, [1], [4]), (100001, [0, 1, 5], [4]), (99999, [4], [4])], none, [], []⟩
noncomputable def L35 : List (LoopS (Int × List (D89) × Unit)) := [⟨2, ⟨[(0, (.ref (.slice Y89) 4 [])), (1, (.pv (.int .i64))), (5, (.pv (.int .i64)))], [(4, (.data false (.slice Y89) (.own (.pr .z (.pr .z (.pr (.own (.pr .z (.pr (.pr (.own (.pr (.own .z) .z)) .z) .z))) (.pr (.own .z) .z)))))))]⟩, fun κ => F35_R2 (fun y => κ.exit 0 (SSh.mk' ⟨[(1, (.pv (.int .i64)))], [(4, (.data false (.slice Y89) (.own (.pr .z (.pr .z (.pr (.own (.pr .z (.pr (.pr (.own (.pr (.own .z) .z)) .z) .z))) (.pr (.own .z) .z)))))))]⟩ y))⟩]
theorem L35_2 : ∀ p : Option Src, RoundEq { E35 with pin := p } L35 L35[0] (nthLoop (codeOf Tryz.f35) 0) := fun p κ N x => by kernel_rfl
theorem C35_ok : IoOk Tryz.prog 35 C35 := tO E35 L35 [nthLoop (codeOf Tryz.f35) 0] Tryz.func35 ty_ok (.consIo C64_ok (.consIo C66_ok .nil)) (fun p => (.cons L35[0] (by kernel_rfl) (L35_2 p) .nil))
noncomputable def F11 (a0 : D25) (a1 : Int) : Option (Int × Unit) :=
 (Option.bind (F33 a0.1 a1) fun y0 =>
 (Option.bind (F34 a0.2.1 y0.1) fun y1 =>
 (Option.bind (F35 a0.2.2.1 y1.1) fun y2 =>
 (some (y2.1, ())))))
noncomputable def C11 : Fun := ⟨[(.tk Y25 (.pr (.own (.pr .z (.pr (.own (.pr .z (.pr (.own .z) .z))) (.pr (.own (.pr .z (.pr (.own .z) .z))) .z)))) (.pr (.own (.pr .z (.pr .z (.pr (.own (.pr .z (.pr (.pr (.own (.pr (.own .z) .z)) .z) .z))) (.pr (.own .z) .z))))) (.pr (.own (.pr .z (.pr .z (.pr (.own (.pr .z (.pr (.pr (.own (.pr (.own .z) .z)) .z) .z))) (.pr (.own .z) .z))))) .z)))), (.ro (.int .i64))], [((.int .i64), .z)], fun z => F11 z.1 z.2.1⟩
noncomputable def E11 : Env := ⟨18, tyTab tys, oneTab ones, fnTab [(33, C33), (34, C34), (35, C35)], false, [], [(99999, [4], [])], none, [], []⟩
noncomputable def L11 : List (LoopS (Int × Unit)) := []
theorem C11_ok : IoOk Tryz.prog 11 C11 := tK E11 L11 [] Tryz.func11 ty_ok (.consIo C33_ok (.consIo C34_ok (.consIo C35_ok .nil))) .nil
noncomputable def F12_R2 (e0_0 : Int × List (Int) × Unit → Option (Int × List (Int) × Unit)) (rec : Int × Int × List (Int) × Unit → Option (Int × List (Int) × Unit)) (x2 : Int × Int × List (Int) × Unit) : Option (Int × List (Int) × Unit) :=
 (cond (decide (x2.2.1 < (((List.length x2.2.2.1) : Nat) : Int)))
 (gd (decide ((0 : Int) ≤ x2.2.1))
 (gd (decide (x2.2.1 < (((List.length x2.2.2.1) : Nat) : Int)))
 (Option.bind x2.2.2.1[(Int.toNat x2.2.1)]? fun y4 =>
 (rec ((IntKind.wrap IntKind.i64 (x2.1 + (1 : Int))), (IntKind.wrap IntKind.i64 (x2.2.1 + (1 : Int))), (List.set x2.2.2.1 (Int.toNat x2.2.1) x2.1), ())))))
 (e0_0 (x2.1, x2.2.2.1, ())))
noncomputable def F12 (a0 : List (Int)) (a1 : Int) : Option (Int × List (Int) × Unit) :=
 (iter (F12_R2
 (fun y5 =>
 (some (y5.1, (y5.2.1, ()))))) fuel (a1, (0 : Int), a0, ()))
noncomputable def C12 : Fun := ⟨[(.io (.slice (.int .i64)) (.own .z)), (.ro (.int .i64))], [((.int .i64), .z)], fun z => F12 z.1 z.2.1⟩
noncomputable def E12 : Env := ⟨19, tyTab tys, oneTab ones, fnTab [], false, [], [(2, [0, 1, 5], [4]), (4, [0, 1, 5], [4]), (6, [1], [4]), (100000, [1], [4]), (100001, [0, 1, 5], [4]), (99999, [4], [4])], none, [], []⟩
noncomputable def L12 : List (LoopS (Int × List (Int) × Unit)) := [⟨2, ⟨[(0, (.ref (.slice (.int .i64)) 4 [])), (1, (.pv (.int .i64))), (5, (.pv (.int .i64)))], [(4, (.data false (.slice (.int .i64)) (.own .z)))]⟩, fun κ => F12_R2 (fun y => κ.exit 0 (SSh.mk' ⟨[(1, (.pv (.int .i64)))], [(4, (.data false (.slice (.int .i64)) (.own .z)))]⟩ y))⟩]
theorem L12_2 : ∀ p : Option Src, RoundEq { E12 with pin := p } L12 L12[0] (nthLoop (codeOf Tryz.f12) 0) := fun p κ N x => by kernel_rfl
theorem C12_ok : IoOk Tryz.prog 12 C12 := tO E12 L12 [nthLoop (codeOf Tryz.f12) 0] Tryz.func12 ty_ok .nil (fun p => (.cons L12[0] (by kernel_rfl) (L12_2 p) .nil))
noncomputable def F13_R2 (e0_0 : Int × Unit → Option (Int × Unit)) (er_1 : Int × Unit → Option (Int × Unit)) (rec : List (Int) × Int × Int × Unit → Option (Int × Unit)) (x2 : List (Int) × Int × Int × Unit) : Option (Int × Unit) :=
 (cond (decide (x2.2.2.1 < (((List.length x2.1) : Nat) : Int)))
 (gd (decide ((0 : Int) ≤ x2.2.2.1))
 (Option.bind x2.1[(Int.toNat x2.2.2.1)]? fun y6 =>
 (cond (y6 != x2.2.1)
 (er_1 ((-(1 : Int)), ()))
 (rec (x2.1, (IntKind.wrap IntKind.i64 (x2.2.1 + (1 : Int))), (IntKind.wrap IntKind.i64 (x2.2.2.1 + (1 : Int))), ())))))
 (e0_0 (x2.2.1, ())))
noncomputable def F13 (a0 : List (Int)) (a1 : Int) : Option (Int × Unit) :=
 (iter (F13_R2
 (fun y7 =>
 (some (y7.1, ())))
 (fun y8 =>
 (some (y8.1, ())))) fuel (a0, a1, (0 : Int), ()))
noncomputable def C13 : Fun := ⟨[(.ro (.slice (.int .i64))), (.ro (.int .i64))], [((.int .i64), .z)], fun z => F13 z.1 z.2.1⟩
noncomputable def E13 : Env := ⟨21, tyTab tys, oneTab ones, fnTab [], false, [], [(2, [0, 1, 5], []), (3, [0, 1, 5], []), (4, [0, 1, 5], []), (6, [0, 1, 5], []), (7, [1], []), (100000, [1], []), (100001, [0, 1, 5], []), (99999, [4], [])], none, [], []⟩
noncomputable def L13 : List (LoopS (Int × Unit)) := [⟨2, ⟨[(0, (.pv (.slice (.int .i64)))), (1, (.pv (.int .i64))), (5, (.pv (.int .i64)))], []⟩, fun κ => F13_R2 (fun y => κ.exit 0 (SSh.mk' ⟨[(1, (.pv (.int .i64)))], []⟩ y)) (fun y => κ.ret (SSh.mk' ⟨[(4, (.pv (.int .i64)))], []⟩ y))⟩]
theorem L13_2 : RoundEq E13 L13 L13[0] (nthLoop (codeOf Tryz.f13) 0) := fun κ N x => by kernel_rfl
theorem C13_ok : QuietOk Tryz.prog 13 C13 := tQ E13 L13 [nthLoop (codeOf Tryz.f13) 0] Tryz.func13 ty_ok .nil (.cons L13[0] (by kernel_rfl) L13_2 .nil)
noncomputable def F3 (a0 : D25) : Option (Bool × Unit) :=
 (Option.bind (F5 a0 (1048576 : Int)) fun y0 =>
 (cond (decide (y0.1 < (0 : Int)))
 (some (true, ()))
 (Option.bind (F7 a0) fun y2 =>
 (Option.bind (F6 y2.1) fun y3 =>
 (Option.bind (F7 a0) fun y4 =>
 (Option.bind (F8 y4.1) fun y5 =>
 (Option.bind (F9 y5.1 y3.1) fun y7 =>
 (cond (!y7.1)
 (some (false, ()))
 (cond (y5.2.1 != y3.2.1)
 (some (false, ()))
 (Option.bind (F7 a0) fun y9 =>
 (Option.bind (F10 y4.1 y9.1) fun y10 =>
 (cond (!y10.1)
 (some (false, ()))
 (Option.bind (F11 y4.1 (1 : Int)) fun y11 =>
 (cond (decide (y11.1 < (0 : Int)))
 (some (false, ()))
 (Option.bind (F9 y5.1 y3.1) fun y13 =>
 (cond (!y13.1)
 (some (false, ()))
 (cond (y5.2.1 != y3.2.1)
 (some (false, ()))
 (Option.bind (F12 y5.1 (1 : Int)) fun y14 =>
 (Option.bind (F13 y14.2.1 (1 : Int)) fun y15 =>
 (cond (decide (y15.1 < (0 : Int)))
 (some (false, ()))
 (cond (y15.1 != y14.1)
 (some (false, ()))
 (Option.bind (F7 a0) fun y18 =>
 (Option.bind (F8 y18.1) fun y19 =>
 (Option.bind (F9 y19.1 y3.1) fun y21 =>
 (cond (!y21.1)
 (some (false, ()))
 (cond (y19.2.1 != y3.2.1)
 (some (false, ()))
 (Option.bind (F13 y14.2.1 (1 : Int)) fun y22 =>
 (cond (decide (y22.1 < (0 : Int)))
 (some (false, ()))
 (cond (y22.1 != y14.1)
 (some (false, ()))
 (some (true, ())))))))))))))))))))))))))))))))
noncomputable def C3 : Fun := ⟨[(.ro Y25)], [(.bool, .z)], fun z => F3 z.1⟩
noncomputable def E3 : Env := ⟨96, tyTab tys, oneTab ones, fnTab [(5, C5), (6, C6), (7, C7), (8, C8), (9, C9), (10, C10), (11, C11), (12, C12), (13, C13)], false, [], [(5, [1], []), (10, [1, 4, 5, 6, 7, 8], []), (12, [1, 4, 5, 6, 7, 8], []), (16, [1, 4, 5, 7], []), (22, [1, 4, 5, 7, 10, 11], []), (24, [1, 4, 5, 7, 10], []), (27, [7, 10], []), (31, [10, 11], []), (33, [], []), (99999, [2], [])], none, [], []⟩
noncomputable def L3 : List (LoopS (Bool × Unit)) := []
theorem C3_ok : QuietOk Tryz.prog 3 C3 := tQ E3 L3 [] Tryz.func3 ty_ok (.cons C5_ok (.consFr C6_ok (.consFr C7_ok (.consFr C8_ok (.cons C9_ok (.cons C10_ok (.consIo C11_ok (.consIo C12_ok (.cons C13_ok .nil))))))))) .nil
noncomputable def F14 (a0 : D25) (a1 : List UInt8) : Option (List (D74) × Int × Unit) :=
 (cond (decide ((((List.length a1) : Nat) : Int) > (65536 : Int)))
 (some ([], ((2 : Int), ())))
 (Option.bind (F22 a0) fun y2 =>
 (cond (!y2.1)
 (some ([], ((1 : Int), ())))
 (Option.bind (F36 a0.1 a1) fun y3 =>
 (cond (decide (y3.1 < (0 : Int)))
 (some ([], ((11 : Int), ())))
 (gd (decide ((0 : Int) ≤ y3.1))
 (Option.bind a0.1[(Int.toNat y3.1)]? fun y5 =>
 (Option.bind (F23 y5 a0.2.2.2.1) fun y6 =>
 (some (y6.1, ((0 : Int), ())))))))))))
noncomputable def C14 : Fun := ⟨[(.ro Y25), (.ro .str)], [((.slice Y74), (.own .z)), ((.int .i64), .z)], fun z => F14 z.1 z.2.1⟩
noncomputable def E14 : Env := ⟨30, tyTab tys, oneTab ones, fnTab [(22, C22), (23, C23), (36, C36)], false, [], [(3, [1, 2], []), (5, [1, 2], []), (8, [2, 6], []), (99999, [4, 5], [])], none, [], []⟩
noncomputable def L14 : List (LoopS (List (D74) × Int × Unit)) := []
theorem C14_ok : FreshOk Tryz.prog 14 C14 := tF E14 L14 [] Tryz.func14 ty_ok (.cons C22_ok (.consFr C23_ok (.cons C36_ok .nil))) .nil
noncomputable def F70 (a0 : List UInt8) : Option (Bool × Unit) :=
 (some ((decide ((((List.length a0) : Nat) : Int) > (65536 : Int))), ()))
noncomputable def C70 : Fun := ⟨[(.ro .str)], [(.bool, .z)], fun z => F70 z.1⟩
noncomputable def E70 : Env := ⟨6, tyTab tys, oneTab ones, fnTab [], false, [], [(99999, [2], [])], none, [], []⟩
noncomputable def L70 : List (LoopS (Bool × Unit)) := []
theorem C70_ok : QuietOk Tryz.prog 70 C70 := tQ E70 L70 [] Tryz.func70 ty_ok .nil .nil
noncomputable def F38 (a0 : List (List UInt8)) : Option (Bool × Unit) :=
 (Option.bind (F69 a0 (fun (v2 : List UInt8) => (Option.map (fun (v3 : (Bool × Unit)) => v3.1) (F70 v2)))) fun y0 =>
 (some (y0.1, ())))
noncomputable def C38 : Fun := ⟨[(.ro (.slice .str))], [(.bool, .z)], fun z => F38 z.1⟩
noncomputable def E38 : Env := ⟨5, tyTab tys, oneTab ones, fnTab [(69, C69), (70, C70)], false, [], [(99999, [2], [])], none, [], []⟩
noncomputable def L38 : List (LoopS (Bool × Unit)) := []
theorem C38_ok : QuietOk Tryz.prog 38 C38 := tQ E38 L38 [] Tryz.func38 ty_ok (.cons C69_ok (.cons C70_ok .nil)) .nil
noncomputable def F15 (a0 : D25) (a1 : List UInt8) : Option (List (D74) × Int × Unit) :=
 (Option.bind (F37 a0.1 a1) fun y0 =>
 (Option.bind (F38 [a1]) fun y2 =>
 (cond y2.1
 (some ([], ((2 : Int), ())))
 (Option.bind (F27 a0) fun y3 =>
 (cond (!y3.1)
 (some ([], ((1 : Int), ())))
 (cond (decide (y0.1 < (0 : Int)))
 (some ([], ((11 : Int), ())))
 (gd (decide ((0 : Int) ≤ y0.1))
 (Option.bind a0.1[(Int.toNat y0.1)]? fun y4 =>
 (Option.bind (F29 y4 a0.2.2.2.1) fun y5 =>
 (some (y5.1, ((0 : Int), ()))))))))))))
noncomputable def C15 : Fun := ⟨[(.ro Y25), (.ro .str)], [((.slice Y74), (.own .z)), ((.int .i64), .z)], fun z => F15 z.1 z.2.1⟩
noncomputable def E15 : Env := ⟨30, tyTab tys, oneTab ones, fnTab [(27, C27), (29, C29), (37, C37), (38, C38)], false, [], [(8, [2, 6], []), (100000, [2, 6], []), (99999, [4, 5], [])], none, [], []⟩
noncomputable def L15 : List (LoopS (List (D74) × Int × Unit)) := []
theorem C15_ok : FreshOk Tryz.prog 15 C15 := tF E15 L15 [] Tryz.func15 ty_ok (.cons C27_ok (.consFr C29_ok (.cons C37_ok (.cons C38_ok .nil)))) .nil
noncomputable def F16_R4 (e0_0 : Unit → Option (Bool × Unit)) (er_1 : Bool × Unit → Option (Bool × Unit)) (rec : List (D74) × List (D74) × Int × Unit → Option (Bool × Unit)) (x3 : List (D74) × List (D74) × Int × Unit) : Option (Bool × Unit) :=
 (cond (decide (x3.2.2.1 < (((List.length x3.1) : Nat) : Int)))
 (gd (decide ((0 : Int) ≤ x3.2.2.1))
 (Option.bind x3.1[(Int.toNat x3.2.2.1)]? fun y6 =>
 (gd (decide ((0 : Int) ≤ x3.2.2.1))
 (Option.bind x3.2.1[(Int.toNat x3.2.2.1)]? fun y7 =>
 (Option.bind (F39 y6 y7) fun y8 =>
 (cond (!y8.1)
 (er_1 (false, ()))
 (rec (x3.1, x3.2.1, (IntKind.wrap IntKind.i64 (x3.2.2.1 + (1 : Int))), ()))))))))
 (e0_0 (())))
noncomputable def F16 (a0 : List (D74)) (a1 : List (D74)) : Option (Bool × Unit) :=
 (cond ((((List.length a0) : Nat) : Int) != (((List.length a1) : Nat) : Int))
 (some (false, ()))
 (iter (F16_R4
 (fun y9 =>
 (some (true, ())))
 (fun y10 =>
 (some (y10.1, ())))) fuel (a0, a1, (0 : Int), ())))
noncomputable def C16 : Fun := ⟨[(.ro (.slice Y74)), (.ro (.slice Y74))], [(.bool, .z)], fun z => F16 z.1 z.2.1⟩
noncomputable def E16 : Env := ⟨27, tyTab tys, oneTab ones, fnTab [(39, C39)], false, [], [(3, [0, 1], []), (4, [0, 1, 5], []), (5, [0, 1, 5], []), (6, [0, 1, 5], []), (8, [], []), (100000, [], []), (100001, [0, 1, 5], []), (99999, [4], [])], none, [], []⟩
noncomputable def L16 : List (LoopS (Bool × Unit)) := [⟨4, ⟨[(0, (.pv (.slice Y74))), (1, (.pv (.slice Y74))), (5, (.pv (.int .i64)))], []⟩, fun κ => F16_R4 (fun y => κ.exit 0 (SSh.mk' ⟨[], []⟩ y)) (fun y => κ.ret (SSh.mk' ⟨[(4, (.pv .bool))], []⟩ y))⟩]
theorem L16_4 : RoundEq E16 L16 L16[0] (nthLoop (codeOf Tryz.f16) 0) := fun κ N x => by kernel_rfl
theorem C16_ok : QuietOk Tryz.prog 16 C16 := tQ E16 L16 [nthLoop (codeOf Tryz.f16) 0] Tryz.func16 ty_ok (.cons C39_ok .nil) (.cons L16[0] (by kernel_rfl) L16_4 .nil)
noncomputable def F17_R2 (e0_0 : Int × List (D74) × Unit → Option (Int × List (D74) × Unit)) (rec : Int × Int × List (D74) × Unit → Option (Int × List (D74) × Unit)) (x2 : Int × Int × List (D74) × Unit) : Option (Int × List (D74) × Unit) :=
 (cond (decide (x2.2.1 < (((List.length x2.2.2.1) : Nat) : Int)))
 (gd (decide ((0 : Int) ≤ x2.2.1))
 (gd (decide (x2.2.1 < (((List.length x2.2.2.1) : Nat) : Int)))
 (Option.bind x2.2.2.1[(Int.toNat x2.2.1)]? fun y4 =>
 (gd (decide ((0 : Int) ≤ x2.2.1))
 (gd (decide (x2.2.1 < (((List.length (List.set x2.2.2.1 (Int.toNat x2.2.1) (x2.1, y4.2))) : Nat) : Int)))
 (Option.bind (List.set x2.2.2.1 (Int.toNat x2.2.1) (x2.1, y4.2))[(Int.toNat x2.2.1)]? fun y5 =>
 (Option.bind (F40 (IntKind.wrap IntKind.i64 ((IntKind.wrap IntKind.i64 (x2.1 + (1 : Int))) + (1 : Int)))) fun y6 =>
 (gd (decide ((0 : Int) ≤ x2.2.1))
 (gd (decide (x2.2.1 < (((List.length (List.set (List.set x2.2.2.1 (Int.toNat x2.2.1) (x2.1, y4.2)) (Int.toNat x2.2.1) (y5.1, ((IntKind.wrap IntKind.i64 (x2.1 + (1 : Int))), y5.2.2)))) : Nat) : Int)))
 (Option.bind (List.set (List.set x2.2.2.1 (Int.toNat x2.2.1) (x2.1, y4.2)) (Int.toNat x2.2.1) (y5.1, ((IntKind.wrap IntKind.i64 (x2.1 + (1 : Int))), y5.2.2)))[(Int.toNat x2.2.1)]? fun y7 =>
 (rec ((IntKind.wrap IntKind.i64 ((IntKind.wrap IntKind.i64 ((IntKind.wrap IntKind.i64 (x2.1 + (1 : Int))) + (1 : Int))) + (1 : Int))), (IntKind.wrap IntKind.i64 (x2.2.1 + (1 : Int))), (List.set (List.set (List.set x2.2.2.1 (Int.toNat x2.2.1) (x2.1, y4.2)) (Int.toNat x2.2.1) (y5.1, ((IntKind.wrap IntKind.i64 (x2.1 + (1 : Int))), y5.2.2))) (Int.toNat x2.2.1) (y7.1, (y7.2.1, (y6.1, y7.2.2.2)))), ()))))))))))))
 (e0_0 (x2.1, x2.2.2.1, ())))
noncomputable def F17 (a0 : List (D74)) (a1 : Int) : Option (Int × List (D74) × Unit) :=
 (iter (F17_R2
 (fun y8 =>
 (some (y8.1, (y8.2.1, ()))))) fuel (a1, (0 : Int), a0, ()))
noncomputable def C17 : Fun := ⟨[(.io (.slice Y74) (.own .z)), (.ro (.int .i64))], [((.int .i64), .z)], fun z => F17 z.1 z.2.1⟩
noncomputable def E17 : Env := ⟨35, tyTab tys, oneTab ones, fnTab [(40, C40)], false, [], [(2, [0, 1, 5], [4]), (4, [0, 1, 5], [4]), (10, [1], [4]), (100000, [1], [4]), (100001, [0, 1, 5], [4]), (99999, [4], [4])], none, [], []⟩
noncomputable def L17 : List (LoopS (Int × List (D74) × Unit)) := [⟨2, ⟨[(0, (.ref (.slice Y74) 4 [])), (1, (.pv (.int .i64))), (5, (.pv (.int .i64)))], [(4, (.data false (.slice Y74) (.own .z)))]⟩, fun κ => F17_R2 (fun y => κ.exit 0 (SSh.mk' ⟨[(1, (.pv (.int .i64)))], [(4, (.data false (.slice Y74) (.own .z)))]⟩ y))⟩]
theorem L17_2 : ∀ p : Option Src, RoundEq { E17 with pin := p } L17 L17[0] (nthLoop (codeOf Tryz.f17) 0) := fun p κ N x => by kernel_rfl
theorem C17_ok : IoOk Tryz.prog 17 C17 := tO E17 L17 [nthLoop (codeOf Tryz.f17) 0] Tryz.func17 ty_ok (.cons C40_ok .nil) (fun p => (.cons L17[0] (by kernel_rfl) (L17_2 p) .nil))
noncomputable def F18_R2 (e0_0 : Int × Unit → Option (Int × Unit)) (er_1 : Int × Unit → Option (Int × Unit)) (rec : List (D74) × Int × Int × Unit → Option (Int × Unit)) (x2 : List (D74) × Int × Int × Unit) : Option (Int × Unit) :=
 (cond (decide (x2.2.2.1 < (((List.length x2.1) : Nat) : Int)))
 (gd (decide ((0 : Int) ≤ x2.2.2.1))
 (Option.bind x2.1[(Int.toNat x2.2.2.1)]? fun y6 =>
 (cond (y6.1 != x2.2.1)
 (er_1 ((-(1 : Int)), ()))
 (gd (decide ((0 : Int) ≤ x2.2.2.1))
 (Option.bind x2.1[(Int.toNat x2.2.2.1)]? fun y8 =>
 (cond (y8.2.1 != (IntKind.wrap IntKind.i64 (x2.2.1 + (1 : Int))))
 (er_1 ((-(1 : Int)), ()))
 (gd (decide ((0 : Int) ≤ x2.2.2.1))
 (Option.bind x2.1[(Int.toNat x2.2.2.1)]? fun y10 =>
 (Option.bind (F40 (IntKind.wrap IntKind.i64 ((IntKind.wrap IntKind.i64 (x2.2.1 + (1 : Int))) + (1 : Int)))) fun y11 =>
 (cond (!(y10.2.2.1 == y11.1))
 (er_1 ((-(1 : Int)), ()))
 (rec (x2.1, (IntKind.wrap IntKind.i64 ((IntKind.wrap IntKind.i64 ((IntKind.wrap IntKind.i64 (x2.2.1 + (1 : Int))) + (1 : Int))) + (1 : Int))), (IntKind.wrap IntKind.i64 (x2.2.2.1 + (1 : Int))), ()))))))))))))
 (e0_0 (x2.2.1, ())))
noncomputable def F18 (a0 : List (D74)) (a1 : Int) : Option (Int × Unit) :=
 (iter (F18_R2
 (fun y12 =>
 (some (y12.1, ())))
 (fun y13 =>
 (some (y13.1, ())))) fuel (a0, a1, (0 : Int), ()))
noncomputable def C18 : Fun := ⟨[(.ro (.slice Y74)), (.ro (.int .i64))], [((.int .i64), .z)], fun z => F18 z.1 z.2.1⟩
noncomputable def E18 : Env := ⟨41, tyTab tys, oneTab ones, fnTab [(40, C40)], false, [], [(2, [0, 1, 5], []), (3, [0, 1, 5], []), (4, [0, 1, 5], []), (6, [0, 1, 5], []), (9, [0, 1, 5], []), (12, [0, 1, 5], []), (13, [1], []), (100000, [1], []), (100001, [0, 1, 5], []), (99999, [4], [])], none, [], []⟩
noncomputable def L18 : List (LoopS (Int × Unit)) := [⟨2, ⟨[(0, (.pv (.slice Y74))), (1, (.pv (.int .i64))), (5, (.pv (.int .i64)))], []⟩, fun κ => F18_R2 (fun y => κ.exit 0 (SSh.mk' ⟨[(1, (.pv (.int .i64)))], []⟩ y)) (fun y => κ.ret (SSh.mk' ⟨[(4, (.pv (.int .i64)))], []⟩ y))⟩]
theorem L18_2 : RoundEq E18 L18 L18[0] (nthLoop (codeOf Tryz.f18) 0) := fun κ N x => by kernel_rfl
theorem C18_ok : QuietOk Tryz.prog 18 C18 := tQ E18 L18 [nthLoop (codeOf Tryz.f18) 0] Tryz.func18 ty_ok (.cons C40_ok .nil) (.cons L18[0] (by kernel_rfl) L18_2 .nil)
noncomputable def F4 (a0 : D25) (a1 : List UInt8) : Option (Bool × Unit) :=
 (cond (decide ((((List.length a1) : Nat) : Int) > (1048576 : Int)))
 (some (true, ()))
 (Option.bind (F5 a0 (1048576 : Int)) fun y1 =>
 (cond (decide (y1.1 < (0 : Int)))
 (some (true, ()))
 (Option.bind (F7 a0) fun y3 =>
 (Option.bind (F14 y3.1 a1) fun y4 =>
 (Option.bind (F7 a0) fun y5 =>
 (Option.bind (F15 y5.1 a1) fun y6 =>
 (Option.bind (F16 y6.1 y4.1) fun y8 =>
 (cond (!y8.1)
 (some (false, ()))
 (cond (y6.2.1 != y4.2.1)
 (some (false, ()))
 (Option.bind (F7 a0) fun y10 =>
 (Option.bind (F10 y5.1 y10.1) fun y11 =>
 (cond (!y11.1)
 (some (false, ()))
 (Option.bind (F11 y5.1 (1 : Int)) fun y12 =>
 (cond (decide (y12.1 < (0 : Int)))
 (some (false, ()))
 (Option.bind (F16 y6.1 y4.1) fun y14 =>
 (cond (!y14.1)
 (some (false, ()))
 (cond (y6.2.1 != y4.2.1)
 (some (false, ()))
 (Option.bind (F17 y6.1 (1 : Int)) fun y15 =>
 (Option.bind (F18 y15.2.1 (1 : Int)) fun y16 =>
 (cond (decide (y16.1 < (0 : Int)))
 (some (false, ()))
 (cond (y16.1 != y15.1)
 (some (false, ()))
 (Option.bind (F7 a0) fun y19 =>
 (Option.bind (F15 y19.1 a1) fun y20 =>
 (Option.bind (F16 y20.1 y4.1) fun y22 =>
 (cond (!y22.1)
 (some (false, ()))
 (cond (y20.2.1 != y4.2.1)
 (some (false, ()))
 (Option.bind (F18 y15.2.1 (1 : Int)) fun y23 =>
 (cond (decide (y23.1 < (0 : Int)))
 (some (false, ()))
 (cond (y23.1 != y15.1)
 (some (false, ()))
 (some (true, ()))))))))))))))))))))))))))))))))
noncomputable def C4 : Fun := ⟨[(.ro Y25), (.ro .str)], [(.bool, .z)], fun z => F4 z.1 z.2.1⟩
noncomputable def E4 : Env := ⟨104, tyTab tys, oneTab ones, fnTab [(5, C5), (7, C7), (10, C10), (11, C11), (14, C14), (15, C15), (16, C16), (17, C17), (18, C18)], false, [], [(3, [1, 2], []), (7, [1, 2], []), (12, [1, 2, 6, 7, 8, 9, 10], []), (14, [1, 2, 6, 7, 8, 9, 10], []), (18, [1, 2, 6, 7, 9], []), (24, [1, 2, 6, 7, 9, 12, 13], []), (26, [1, 2, 6, 7, 9, 12], []), (29, [9, 12], []), (33, [12, 13], []), (35, [], []), (99999, [4], [])], none, [], []⟩
noncomputable def L4 : List (LoopS (Bool × Unit)) := []
theorem C4_ok : QuietOk Tryz.prog 4 C4 := tQ E4 L4 [] Tryz.func4 ty_ok (.cons C5_ok (.consFr C7_ok (.cons C10_ok (.consIo C11_ok (.consFr C14_ok (.consFr C15_ok (.cons C16_ok (.consIo C17_ok (.cons C18_ok .nil))))))))) .nil
end Go.V
