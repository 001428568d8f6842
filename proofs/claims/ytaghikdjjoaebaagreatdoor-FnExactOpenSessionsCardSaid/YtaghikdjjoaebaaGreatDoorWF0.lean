/- What functions of the program compute, printed by a program of ours. No condition. -/
import Derived.Test.YtaghikdjjoaebaaGreatDoorWRep
namespace Go.V
open Go.Proofs
set_option maxRecDepth 100000
set_option linter.unusedVariables false
noncomputable def F123 (a0 : D83) (a1 : Int) : Option (Int × Unit) :=
 (cond (decide ((IntKind.wrap IntKind.i64 (a1 - (((List.length a0.2.2.1) : Nat) : Int))) < (0 : Int)))
 (some ((-(1 : Int)), ()))
 (some ((IntKind.wrap IntKind.i64 (a1 - (((List.length a0.2.2.1) : Nat) : Int))), ())))
noncomputable def C123 : Fun := ⟨[(.ro Y83), (.ro (.int .i64))], [((.int .i64), .z)], fun z => F123 z.1 z.2.1⟩
noncomputable def E123 : Env := ⟨13, tyTab tys, oneTab ones, fnTab [], false, [], [(4, [1], []), (99999, [4], [])], none, []⟩
noncomputable def L123 : List (LoopS (Int × Unit)) := []
theorem C123_ok : QuietOk Tryz.prog 123 C123 := tQ E123 L123 [] Tryz.func123 ty_ok .nil .nil
noncomputable def F154 (a0 : D85) (a1 : Int) : Option (Int × Unit) :=
 (Option.bind (F123 a0.2.2.1 a1) fun y0 =>
 (cond (decide (y0.1 < (0 : Int)))
 (some ((-(1 : Int)), ()))
 (some (y0.1, ()))))
noncomputable def C154 : Fun := ⟨[(.ro Y85), (.ro (.int .i64))], [((.int .i64), .z)], fun z => F154 z.1 z.2.1⟩
noncomputable def E154 : Env := ⟨12, tyTab tys, oneTab ones, fnTab [(123, C123)], false, [], [(4, [1], []), (99999, [4], [])], none, []⟩
noncomputable def L154 : List (LoopS (Int × Unit)) := []
theorem C154_ok : QuietOk Tryz.prog 154 C154 := tQ E154 L154 [] Tryz.func154 ty_ok (.cons C123_ok .nil) .nil
noncomputable def F120_R5 (e0_0 : Int × Unit → Option (Int × Unit)) (er_1 : Int × Unit → Option (Int × Unit)) (rec : List (D85) × Int × Int × Unit → Option (Int × Unit)) (x3 : List (D85) × Int × Int × Unit) : Option (Int × Unit) :=
 (cond (decide (x3.2.2.1 < (((List.length x3.1) : Nat) : Int)))
 (gd (decide ((0 : Int) ≤ x3.2.2.1))
 (Option.bind x3.1[(Int.toNat x3.2.2.1)]? fun y6 =>
 (Option.bind (F154 y6 x3.2.1) fun y7 =>
 (cond (decide (y7.1 < (0 : Int)))
 (er_1 ((-(1 : Int)), ()))
 (rec (x3.1, y7.1, (IntKind.wrap IntKind.i64 (x3.2.2.1 + (1 : Int))), ()))))))
 (e0_0 (x3.2.1, ())))
noncomputable def F120 (a0 : List (D85)) (a1 : Int) : Option (Int × Unit) :=
 (cond (decide ((IntKind.wrap IntKind.i64 (a1 - (((List.length a0) : Nat) : Int))) < (0 : Int)))
 (some ((-(1 : Int)), ()))
 (iter (F120_R5
 (fun y8 =>
 (some (y8.1, ())))
 (fun y9 =>
 (some (y9.1, ())))) fuel (a0, (IntKind.wrap IntKind.i64 (a1 - (((List.length a0) : Nat) : Int))), (0 : Int), ())))
noncomputable def C120 : Fun := ⟨[(.ro (.slice Y85)), (.ro (.int .i64))], [((.int .i64), .z)], fun z => F120 z.1 z.2.1⟩
noncomputable def E120 : Env := ⟨27, tyTab tys, oneTab ones, fnTab [(154, C154)], false, [], [(4, [0, 1], []), (5, [0, 1, 5], []), (6, [0, 1, 5], []), (7, [0, 1, 5], []), (10, [1], []), (100000, [1], []), (100001, [0, 1, 5], []), (99999, [4], [])], none, []⟩
noncomputable def L120 : List (LoopS (Int × Unit)) := [⟨5, ⟨[(0, (.pv (.slice Y85))), (1, (.pv (.int .i64))), (5, (.pv (.int .i64)))], []⟩, fun κ => F120_R5 (fun y => κ.exit 0 (SSh.mk' ⟨[(1, (.pv (.int .i64)))], []⟩ y)) (fun y => κ.ret (SSh.mk' ⟨[(4, (.pv (.int .i64)))], []⟩ y))⟩]
theorem L120_5 : RoundEq E120 L120 L120[0] (nthLoop (codeOf Tryz.f120) 0) := fun κ N x => by kernel_rfl
theorem C120_ok : QuietOk Tryz.prog 120 C120 := tQ E120 L120 [nthLoop (codeOf Tryz.f120) 0] Tryz.func120 ty_ok (.cons C154_ok .nil) (.cons L120[0] (by kernel_rfl) L120_5 .nil)
noncomputable def F83 (a0 : D81) (a1 : Int) : Option (Int × Unit) :=
 (Option.bind (F120 a0.2.1 a1) fun y0 =>
 (cond (decide (y0.1 < (0 : Int)))
 (some ((-(1 : Int)), ()))
 (some (y0.1, ()))))
noncomputable def C83 : Fun := ⟨[(.ro Y81), (.ro (.int .i64))], [((.int .i64), .z)], fun z => F83 z.1 z.2.1⟩
noncomputable def E83 : Env := ⟨12, tyTab tys, oneTab ones, fnTab [(120, C120)], false, [], [(4, [1], []), (99999, [4], [])], none, []⟩
noncomputable def L83 : List (LoopS (Int × Unit)) := []
theorem C83_ok : QuietOk Tryz.prog 83 C83 := tQ E83 L83 [] Tryz.func83 ty_ok (.cons C120_ok .nil) .nil
noncomputable def F53_R5 (e0_0 : Int × Unit → Option (Int × Unit)) (er_1 : Int × Unit → Option (Int × Unit)) (rec : List (D81) × Int × Int × Unit → Option (Int × Unit)) (x3 : List (D81) × Int × Int × Unit) : Option (Int × Unit) :=
 (cond (decide (x3.2.2.1 < (((List.length x3.1) : Nat) : Int)))
 (gd (decide ((0 : Int) ≤ x3.2.2.1))
 (Option.bind x3.1[(Int.toNat x3.2.2.1)]? fun y6 =>
 (Option.bind (F83 y6 x3.2.1) fun y7 =>
 (cond (decide (y7.1 < (0 : Int)))
 (er_1 ((-(1 : Int)), ()))
 (rec (x3.1, y7.1, (IntKind.wrap IntKind.i64 (x3.2.2.1 + (1 : Int))), ()))))))
 (e0_0 (x3.2.1, ())))
noncomputable def F53 (a0 : List (D81)) (a1 : Int) : Option (Int × Unit) :=
 (cond (decide ((IntKind.wrap IntKind.i64 (a1 - (((List.length a0) : Nat) : Int))) < (0 : Int)))
 (some ((-(1 : Int)), ()))
 (iter (F53_R5
 (fun y8 =>
 (some (y8.1, ())))
 (fun y9 =>
 (some (y9.1, ())))) fuel (a0, (IntKind.wrap IntKind.i64 (a1 - (((List.length a0) : Nat) : Int))), (0 : Int), ())))
noncomputable def C53 : Fun := ⟨[(.ro (.slice Y81)), (.ro (.int .i64))], [((.int .i64), .z)], fun z => F53 z.1 z.2.1⟩
noncomputable def E53 : Env := ⟨27, tyTab tys, oneTab ones, fnTab [(83, C83)], false, [], [(4, [0, 1], []), (5, [0, 1, 5], []), (6, [0, 1, 5], []), (7, [0, 1, 5], []), (10, [1], []), (100000, [1], []), (100001, [0, 1, 5], []), (99999, [4], [])], none, []⟩
noncomputable def L53 : List (LoopS (Int × Unit)) := [⟨5, ⟨[(0, (.pv (.slice Y81))), (1, (.pv (.int .i64))), (5, (.pv (.int .i64)))], []⟩, fun κ => F53_R5 (fun y => κ.exit 0 (SSh.mk' ⟨[(1, (.pv (.int .i64)))], []⟩ y)) (fun y => κ.ret (SSh.mk' ⟨[(4, (.pv (.int .i64)))], []⟩ y))⟩]
theorem L53_5 : RoundEq E53 L53 L53[0] (nthLoop (codeOf Tryz.f53) 0) := fun κ N x => by kernel_rfl
theorem C53_ok : QuietOk Tryz.prog 53 C53 := tQ E53 L53 [nthLoop (codeOf Tryz.f53) 0] Tryz.func53 ty_ok (.cons C83_ok .nil) (.cons L53[0] (by kernel_rfl) L53_5 .nil)
noncomputable def F155 (a0 : D190) (a1 : Int) : Option (Int × Unit) :=
 (cond (decide ((IntKind.wrap IntKind.i64 (a1 - (((List.length a0.1) : Nat) : Int))) < (0 : Int)))
 (some ((-(1 : Int)), ()))
 (some ((IntKind.wrap IntKind.i64 (a1 - (((List.length a0.1) : Nat) : Int))), ())))
noncomputable def C155 : Fun := ⟨[(.ro Y190), (.ro (.int .i64))], [((.int .i64), .z)], fun z => F155 z.1 z.2.1⟩
noncomputable def E155 : Env := ⟨13, tyTab tys, oneTab ones, fnTab [], false, [], [(4, [1], []), (99999, [4], [])], none, []⟩
noncomputable def L155 : List (LoopS (Int × Unit)) := []
theorem C155_ok : QuietOk Tryz.prog 155 C155 := tQ E155 L155 [] Tryz.func155 ty_ok .nil .nil
noncomputable def F121_R5 (e0_0 : Int × Unit → Option (Int × Unit)) (er_1 : Int × Unit → Option (Int × Unit)) (rec : List (D190) × Int × Int × Unit → Option (Int × Unit)) (x3 : List (D190) × Int × Int × Unit) : Option (Int × Unit) :=
 (cond (decide (x3.2.2.1 < (((List.length x3.1) : Nat) : Int)))
 (gd (decide ((0 : Int) ≤ x3.2.2.1))
 (Option.bind x3.1[(Int.toNat x3.2.2.1)]? fun y6 =>
 (Option.bind (F155 y6 x3.2.1) fun y7 =>
 (cond (decide (y7.1 < (0 : Int)))
 (er_1 ((-(1 : Int)), ()))
 (rec (x3.1, y7.1, (IntKind.wrap IntKind.i64 (x3.2.2.1 + (1 : Int))), ()))))))
 (e0_0 (x3.2.1, ())))
noncomputable def F121 (a0 : List (D190)) (a1 : Int) : Option (Int × Unit) :=
 (cond (decide ((IntKind.wrap IntKind.i64 (a1 - (((List.length a0) : Nat) : Int))) < (0 : Int)))
 (some ((-(1 : Int)), ()))
 (iter (F121_R5
 (fun y8 =>
 (some (y8.1, ())))
 (fun y9 =>
 (some (y9.1, ())))) fuel (a0, (IntKind.wrap IntKind.i64 (a1 - (((List.length a0) : Nat) : Int))), (0 : Int), ())))
noncomputable def C121 : Fun := ⟨[(.ro (.slice Y190)), (.ro (.int .i64))], [((.int .i64), .z)], fun z => F121 z.1 z.2.1⟩
noncomputable def E121 : Env := ⟨27, tyTab tys, oneTab ones, fnTab [(155, C155)], false, [], [(4, [0, 1], []), (5, [0, 1, 5], []), (6, [0, 1, 5], []), (7, [0, 1, 5], []), (10, [1], []), (100000, [1], []), (100001, [0, 1, 5], []), (99999, [4], [])], none, []⟩
noncomputable def L121 : List (LoopS (Int × Unit)) := [⟨5, ⟨[(0, (.pv (.slice Y190))), (1, (.pv (.int .i64))), (5, (.pv (.int .i64)))], []⟩, fun κ => F121_R5 (fun y => κ.exit 0 (SSh.mk' ⟨[(1, (.pv (.int .i64)))], []⟩ y)) (fun y => κ.ret (SSh.mk' ⟨[(4, (.pv (.int .i64)))], []⟩ y))⟩]
theorem L121_5 : RoundEq E121 L121 L121[0] (nthLoop (codeOf Tryz.f121) 0) := fun κ N x => by kernel_rfl
theorem C121_ok : QuietOk Tryz.prog 121 C121 := tQ E121 L121 [nthLoop (codeOf Tryz.f121) 0] Tryz.func121 ty_ok (.cons C155_ok .nil) (.cons L121[0] (by kernel_rfl) L121_5 .nil)
noncomputable def F84 (a0 : D138) (a1 : Int) : Option (Int × Unit) :=
 (cond (decide ((IntKind.wrap IntKind.i64 (a1 - (((List.length a0.1) : Nat) : Int))) < (0 : Int)))
 (some ((-(1 : Int)), ()))
 (Option.bind (F121 a0.2.1 (IntKind.wrap IntKind.i64 (a1 - (((List.length a0.1) : Nat) : Int)))) fun y1 =>
 (cond (decide (y1.1 < (0 : Int)))
 (some ((-(1 : Int)), ()))
 (some (y1.1, ())))))
noncomputable def C84 : Fun := ⟨[(.ro Y138), (.ro (.int .i64))], [((.int .i64), .z)], fun z => F84 z.1 z.2.1⟩
noncomputable def E84 : Env := ⟨19, tyTab tys, oneTab ones, fnTab [(121, C121)], false, [], [(4, [1, 2], []), (7, [1], []), (99999, [4], [])], none, []⟩
noncomputable def L84 : List (LoopS (Int × Unit)) := []
theorem C84_ok : QuietOk Tryz.prog 84 C84 := tQ E84 L84 [] Tryz.func84 ty_ok (.cons C121_ok .nil) .nil
noncomputable def F54_R5 (e0_0 : Int × Unit → Option (Int × Unit)) (er_1 : Int × Unit → Option (Int × Unit)) (rec : List (D138) × Int × Int × Unit → Option (Int × Unit)) (x3 : List (D138) × Int × Int × Unit) : Option (Int × Unit) :=
 (cond (decide (x3.2.2.1 < (((List.length x3.1) : Nat) : Int)))
 (gd (decide ((0 : Int) ≤ x3.2.2.1))
 (Option.bind x3.1[(Int.toNat x3.2.2.1)]? fun y6 =>
 (Option.bind (F84 y6 x3.2.1) fun y7 =>
 (cond (decide (y7.1 < (0 : Int)))
 (er_1 ((-(1 : Int)), ()))
 (rec (x3.1, y7.1, (IntKind.wrap IntKind.i64 (x3.2.2.1 + (1 : Int))), ()))))))
 (e0_0 (x3.2.1, ())))
noncomputable def F54 (a0 : List (D138)) (a1 : Int) : Option (Int × Unit) :=
 (cond (decide ((IntKind.wrap IntKind.i64 (a1 - (((List.length a0) : Nat) : Int))) < (0 : Int)))
 (some ((-(1 : Int)), ()))
 (iter (F54_R5
 (fun y8 =>
 (some (y8.1, ())))
 (fun y9 =>
 (some (y9.1, ())))) fuel (a0, (IntKind.wrap IntKind.i64 (a1 - (((List.length a0) : Nat) : Int))), (0 : Int), ())))
noncomputable def C54 : Fun := ⟨[(.ro (.slice Y138)), (.ro (.int .i64))], [((.int .i64), .z)], fun z => F54 z.1 z.2.1⟩
noncomputable def E54 : Env := ⟨27, tyTab tys, oneTab ones, fnTab [(84, C84)], false, [], [(4, [0, 1], []), (5, [0, 1, 5], []), (6, [0, 1, 5], []), (7, [0, 1, 5], []), (10, [1], []), (100000, [1], []), (100001, [0, 1, 5], []), (99999, [4], [])], none, []⟩
noncomputable def L54 : List (LoopS (Int × Unit)) := [⟨5, ⟨[(0, (.pv (.slice Y138))), (1, (.pv (.int .i64))), (5, (.pv (.int .i64)))], []⟩, fun κ => F54_R5 (fun y => κ.exit 0 (SSh.mk' ⟨[(1, (.pv (.int .i64)))], []⟩ y)) (fun y => κ.ret (SSh.mk' ⟨[(4, (.pv (.int .i64)))], []⟩ y))⟩]
theorem L54_5 : RoundEq E54 L54 L54[0] (nthLoop (codeOf Tryz.f54) 0) := fun κ N x => by kernel_rfl
theorem C54_ok : QuietOk Tryz.prog 54 C54 := tQ E54 L54 [nthLoop (codeOf Tryz.f54) 0] Tryz.func54 ty_ok (.cons C84_ok .nil) (.cons L54[0] (by kernel_rfl) L54_5 .nil)
noncomputable def F27 (a0 : D62) (a1 : Int) : Option (Int × Unit) :=
 (cond (decide ((IntKind.wrap IntKind.i64 (a1 - (((List.length a0.1) : Nat) : Int))) < (0 : Int)))
 (some ((-(1 : Int)), ()))
 (Option.bind (F53 a0.2.1 (IntKind.wrap IntKind.i64 (a1 - (((List.length a0.1) : Nat) : Int)))) fun y1 =>
 (cond (decide (y1.1 < (0 : Int)))
 (some ((-(1 : Int)), ()))
 (Option.bind (F54 a0.2.2.1 y1.1) fun y3 =>
 (cond (decide (y3.1 < (0 : Int)))
 (some ((-(1 : Int)), ()))
 (some (y3.1, ())))))))
noncomputable def C27 : Fun := ⟨[(.ro Y62), (.ro (.int .i64))], [((.int .i64), .z)], fun z => F27 z.1 z.2.1⟩
noncomputable def E27 : Env := ⟨25, tyTab tys, oneTab ones, fnTab [(53, C53), (54, C54)], false, [], [(4, [1, 2], []), (7, [1, 2], []), (10, [1], []), (99999, [4], [])], none, []⟩
noncomputable def L27 : List (LoopS (Int × Unit)) := []
theorem C27_ok : QuietOk Tryz.prog 27 C27 := tQ E27 L27 [] Tryz.func27 ty_ok (.cons C53_ok (.cons C54_ok .nil)) .nil
noncomputable def F13_R5 (e0_0 : Int × Unit → Option (Int × Unit)) (er_1 : Int × Unit → Option (Int × Unit)) (rec : List (D62) × Int × Int × Unit → Option (Int × Unit)) (x3 : List (D62) × Int × Int × Unit) : Option (Int × Unit) :=
 (cond (decide (x3.2.2.1 < (((List.length x3.1) : Nat) : Int)))
 (gd (decide ((0 : Int) ≤ x3.2.2.1))
 (Option.bind x3.1[(Int.toNat x3.2.2.1)]? fun y6 =>
 (Option.bind (F27 y6 x3.2.1) fun y7 =>
 (cond (decide (y7.1 < (0 : Int)))
 (er_1 ((-(1 : Int)), ()))
 (rec (x3.1, y7.1, (IntKind.wrap IntKind.i64 (x3.2.2.1 + (1 : Int))), ()))))))
 (e0_0 (x3.2.1, ())))
noncomputable def F13 (a0 : List (D62)) (a1 : Int) : Option (Int × Unit) :=
 (cond (decide ((IntKind.wrap IntKind.i64 (a1 - (((List.length a0) : Nat) : Int))) < (0 : Int)))
 (some ((-(1 : Int)), ()))
 (iter (F13_R5
 (fun y8 =>
 (some (y8.1, ())))
 (fun y9 =>
 (some (y9.1, ())))) fuel (a0, (IntKind.wrap IntKind.i64 (a1 - (((List.length a0) : Nat) : Int))), (0 : Int), ())))
noncomputable def C13 : Fun := ⟨[(.ro (.slice Y62)), (.ro (.int .i64))], [((.int .i64), .z)], fun z => F13 z.1 z.2.1⟩
noncomputable def E13 : Env := ⟨27, tyTab tys, oneTab ones, fnTab [(27, C27)], false, [], [(4, [0, 1], []), (5, [0, 1, 5], []), (6, [0, 1, 5], []), (7, [0, 1, 5], []), (10, [1], []), (100000, [1], []), (100001, [0, 1, 5], []), (99999, [4], [])], none, []⟩
noncomputable def L13 : List (LoopS (Int × Unit)) := [⟨5, ⟨[(0, (.pv (.slice Y62))), (1, (.pv (.int .i64))), (5, (.pv (.int .i64)))], []⟩, fun κ => F13_R5 (fun y => κ.exit 0 (SSh.mk' ⟨[(1, (.pv (.int .i64)))], []⟩ y)) (fun y => κ.ret (SSh.mk' ⟨[(4, (.pv (.int .i64)))], []⟩ y))⟩]
theorem L13_5 : RoundEq E13 L13 L13[0] (nthLoop (codeOf Tryz.f13) 0) := fun κ N x => by kernel_rfl
theorem C13_ok : QuietOk Tryz.prog 13 C13 := tQ E13 L13 [nthLoop (codeOf Tryz.f13) 0] Tryz.func13 ty_ok (.cons C27_ok .nil) (.cons L13[0] (by kernel_rfl) L13_5 .nil)
noncomputable def F207 (a0 : D203) (a1 : Int) : Option (Int × Unit) :=
 (cond (decide ((IntKind.wrap IntKind.i64 (a1 - (((List.length a0.2.1) : Nat) : Int))) < (0 : Int)))
 (some ((-(1 : Int)), ()))
 (Option.bind (F123 a0.2.2.1 (IntKind.wrap IntKind.i64 (a1 - (((List.length a0.2.1) : Nat) : Int)))) fun y1 =>
 (cond (decide (y1.1 < (0 : Int)))
 (some ((-(1 : Int)), ()))
 (some (y1.1, ())))))
noncomputable def C207 : Fun := ⟨[(.ro Y203), (.ro (.int .i64))], [((.int .i64), .z)], fun z => F207 z.1 z.2.1⟩
noncomputable def E207 : Env := ⟨19, tyTab tys, oneTab ones, fnTab [(123, C123)], false, [], [(4, [1, 2], []), (7, [1], []), (99999, [4], [])], none, []⟩
noncomputable def L207 : List (LoopS (Int × Unit)) := []
theorem C207_ok : QuietOk Tryz.prog 207 C207 := tQ E207 L207 [] Tryz.func207 ty_ok (.cons C123_ok .nil) .nil
noncomputable def F195_R5 (e0_0 : Int × Unit → Option (Int × Unit)) (er_1 : Int × Unit → Option (Int × Unit)) (rec : List (D203) × Int × Int × Unit → Option (Int × Unit)) (x3 : List (D203) × Int × Int × Unit) : Option (Int × Unit) :=
 (cond (decide (x3.2.2.1 < (((List.length x3.1) : Nat) : Int)))
 (gd (decide ((0 : Int) ≤ x3.2.2.1))
 (Option.bind x3.1[(Int.toNat x3.2.2.1)]? fun y6 =>
 (Option.bind (F207 y6 x3.2.1) fun y7 =>
 (cond (decide (y7.1 < (0 : Int)))
 (er_1 ((-(1 : Int)), ()))
 (rec (x3.1, y7.1, (IntKind.wrap IntKind.i64 (x3.2.2.1 + (1 : Int))), ()))))))
 (e0_0 (x3.2.1, ())))
noncomputable def F195 (a0 : List (D203)) (a1 : Int) : Option (Int × Unit) :=
 (cond (decide ((IntKind.wrap IntKind.i64 (a1 - (((List.length a0) : Nat) : Int))) < (0 : Int)))
 (some ((-(1 : Int)), ()))
 (iter (F195_R5
 (fun y8 =>
 (some (y8.1, ())))
 (fun y9 =>
 (some (y9.1, ())))) fuel (a0, (IntKind.wrap IntKind.i64 (a1 - (((List.length a0) : Nat) : Int))), (0 : Int), ())))
noncomputable def C195 : Fun := ⟨[(.ro (.slice Y203)), (.ro (.int .i64))], [((.int .i64), .z)], fun z => F195 z.1 z.2.1⟩
noncomputable def E195 : Env := ⟨27, tyTab tys, oneTab ones, fnTab [(207, C207)], false, [], [(4, [0, 1], []), (5, [0, 1, 5], []), (6, [0, 1, 5], []), (7, [0, 1, 5], []), (10, [1], []), (100000, [1], []), (100001, [0, 1, 5], []), (99999, [4], [])], none, []⟩
noncomputable def L195 : List (LoopS (Int × Unit)) := [⟨5, ⟨[(0, (.pv (.slice Y203))), (1, (.pv (.int .i64))), (5, (.pv (.int .i64)))], []⟩, fun κ => F195_R5 (fun y => κ.exit 0 (SSh.mk' ⟨[(1, (.pv (.int .i64)))], []⟩ y)) (fun y => κ.ret (SSh.mk' ⟨[(4, (.pv (.int .i64)))], []⟩ y))⟩]
theorem L195_5 : RoundEq E195 L195 L195[0] (nthLoop (codeOf Tryz.f195) 0) := fun κ N x => by kernel_rfl
theorem C195_ok : QuietOk Tryz.prog 195 C195 := tQ E195 L195 [nthLoop (codeOf Tryz.f195) 0] Tryz.func195 ty_ok (.cons C207_ok .nil) (.cons L195[0] (by kernel_rfl) L195_5 .nil)
noncomputable def F177 (a0 : D194) (a1 : Int) : Option (Int × Unit) :=
 (Option.bind (F195 a0.1 a1) fun y0 =>
 (cond (decide (y0.1 < (0 : Int)))
 (some ((-(1 : Int)), ()))
 (some (y0.1, ()))))
noncomputable def C177 : Fun := ⟨[(.ro Y194), (.ro (.int .i64))], [((.int .i64), .z)], fun z => F177 z.1 z.2.1⟩
noncomputable def E177 : Env := ⟨12, tyTab tys, oneTab ones, fnTab [(195, C195)], false, [], [(4, [1], []), (99999, [4], [])], none, []⟩
noncomputable def L177 : List (LoopS (Int × Unit)) := []
theorem C177_ok : QuietOk Tryz.prog 177 C177 := tQ E177 L177 [] Tryz.func177 ty_ok (.cons C195_ok .nil) .nil
noncomputable def F156_R5 (e0_0 : Int × Unit → Option (Int × Unit)) (er_1 : Int × Unit → Option (Int × Unit)) (rec : List (D194) × Int × Int × Unit → Option (Int × Unit)) (x3 : List (D194) × Int × Int × Unit) : Option (Int × Unit) :=
 (cond (decide (x3.2.2.1 < (((List.length x3.1) : Nat) : Int)))
 (gd (decide ((0 : Int) ≤ x3.2.2.1))
 (Option.bind x3.1[(Int.toNat x3.2.2.1)]? fun y6 =>
 (Option.bind (F177 y6 x3.2.1) fun y7 =>
 (cond (decide (y7.1 < (0 : Int)))
 (er_1 ((-(1 : Int)), ()))
 (rec (x3.1, y7.1, (IntKind.wrap IntKind.i64 (x3.2.2.1 + (1 : Int))), ()))))))
 (e0_0 (x3.2.1, ())))
noncomputable def F156 (a0 : List (D194)) (a1 : Int) : Option (Int × Unit) :=
 (cond (decide ((IntKind.wrap IntKind.i64 (a1 - (((List.length a0) : Nat) : Int))) < (0 : Int)))
 (some ((-(1 : Int)), ()))
 (iter (F156_R5
 (fun y8 =>
 (some (y8.1, ())))
 (fun y9 =>
 (some (y9.1, ())))) fuel (a0, (IntKind.wrap IntKind.i64 (a1 - (((List.length a0) : Nat) : Int))), (0 : Int), ())))
noncomputable def C156 : Fun := ⟨[(.ro (.slice Y194)), (.ro (.int .i64))], [((.int .i64), .z)], fun z => F156 z.1 z.2.1⟩
noncomputable def E156 : Env := ⟨27, tyTab tys, oneTab ones, fnTab [(177, C177)], false, [], [(4, [0, 1], []), (5, [0, 1, 5], []), (6, [0, 1, 5], []), (7, [0, 1, 5], []), (10, [1], []), (100000, [1], []), (100001, [0, 1, 5], []), (99999, [4], [])], none, []⟩
noncomputable def L156 : List (LoopS (Int × Unit)) := [⟨5, ⟨[(0, (.pv (.slice Y194))), (1, (.pv (.int .i64))), (5, (.pv (.int .i64)))], []⟩, fun κ => F156_R5 (fun y => κ.exit 0 (SSh.mk' ⟨[(1, (.pv (.int .i64)))], []⟩ y)) (fun y => κ.ret (SSh.mk' ⟨[(4, (.pv (.int .i64)))], []⟩ y))⟩]
theorem L156_5 : RoundEq E156 L156 L156[0] (nthLoop (codeOf Tryz.f156) 0) := fun κ N x => by kernel_rfl
theorem C156_ok : QuietOk Tryz.prog 156 C156 := tQ E156 L156 [nthLoop (codeOf Tryz.f156) 0] Tryz.func156 ty_ok (.cons C177_ok .nil) (.cons L156[0] (by kernel_rfl) L156_5 .nil)
noncomputable def F122 (a0 : D117) (a1 : Int) : Option (Int × Unit) :=
 (Option.bind (F156 a0.1 a1) fun y0 =>
 (cond (decide (y0.1 < (0 : Int)))
 (some ((-(1 : Int)), ()))
 (some (y0.1, ()))))
noncomputable def C122 : Fun := ⟨[(.ro Y117), (.ro (.int .i64))], [((.int .i64), .z)], fun z => F122 z.1 z.2.1⟩
noncomputable def E122 : Env := ⟨12, tyTab tys, oneTab ones, fnTab [(156, C156)], false, [], [(4, [1], []), (99999, [4], [])], none, []⟩
noncomputable def L122 : List (LoopS (Int × Unit)) := []
theorem C122_ok : QuietOk Tryz.prog 122 C122 := tQ E122 L122 [] Tryz.func122 ty_ok (.cons C156_ok .nil) .nil
noncomputable def F85 (a0 : D119) (a1 : Int) : Option (Int × Unit) :=
 (cond (decide ((IntKind.wrap IntKind.i64 (a1 - (((List.length a0.1) : Nat) : Int))) < (0 : Int)))
 (some ((-(1 : Int)), ()))
 (Option.bind (F122 a0.2.1 (IntKind.wrap IntKind.i64 (a1 - (((List.length a0.1) : Nat) : Int)))) fun y1 =>
 (cond (decide (y1.1 < (0 : Int)))
 (some ((-(1 : Int)), ()))
 (some (y1.1, ())))))
noncomputable def C85 : Fun := ⟨[(.ro Y119), (.ro (.int .i64))], [((.int .i64), .z)], fun z => F85 z.1 z.2.1⟩
noncomputable def E85 : Env := ⟨19, tyTab tys, oneTab ones, fnTab [(122, C122)], false, [], [(4, [1, 2], []), (7, [1], []), (99999, [4], [])], none, []⟩
noncomputable def L85 : List (LoopS (Int × Unit)) := []
theorem C85_ok : QuietOk Tryz.prog 85 C85 := tQ E85 L85 [] Tryz.func85 ty_ok (.cons C122_ok .nil) .nil
noncomputable def F55_R5 (e0_0 : Int × Unit → Option (Int × Unit)) (er_1 : Int × Unit → Option (Int × Unit)) (rec : List (D119) × Int × Int × Unit → Option (Int × Unit)) (x3 : List (D119) × Int × Int × Unit) : Option (Int × Unit) :=
 (cond (decide (x3.2.2.1 < (((List.length x3.1) : Nat) : Int)))
 (gd (decide ((0 : Int) ≤ x3.2.2.1))
 (Option.bind x3.1[(Int.toNat x3.2.2.1)]? fun y6 =>
 (Option.bind (F85 y6 x3.2.1) fun y7 =>
 (cond (decide (y7.1 < (0 : Int)))
 (er_1 ((-(1 : Int)), ()))
 (rec (x3.1, y7.1, (IntKind.wrap IntKind.i64 (x3.2.2.1 + (1 : Int))), ()))))))
 (e0_0 (x3.2.1, ())))
noncomputable def F55 (a0 : List (D119)) (a1 : Int) : Option (Int × Unit) :=
 (cond (decide ((IntKind.wrap IntKind.i64 (a1 - (((List.length a0) : Nat) : Int))) < (0 : Int)))
 (some ((-(1 : Int)), ()))
 (iter (F55_R5
 (fun y8 =>
 (some (y8.1, ())))
 (fun y9 =>
 (some (y9.1, ())))) fuel (a0, (IntKind.wrap IntKind.i64 (a1 - (((List.length a0) : Nat) : Int))), (0 : Int), ())))
noncomputable def C55 : Fun := ⟨[(.ro (.slice Y119)), (.ro (.int .i64))], [((.int .i64), .z)], fun z => F55 z.1 z.2.1⟩
noncomputable def E55 : Env := ⟨27, tyTab tys, oneTab ones, fnTab [(85, C85)], false, [], [(4, [0, 1], []), (5, [0, 1, 5], []), (6, [0, 1, 5], []), (7, [0, 1, 5], []), (10, [1], []), (100000, [1], []), (100001, [0, 1, 5], []), (99999, [4], [])], none, []⟩
noncomputable def L55 : List (LoopS (Int × Unit)) := [⟨5, ⟨[(0, (.pv (.slice Y119))), (1, (.pv (.int .i64))), (5, (.pv (.int .i64)))], []⟩, fun κ => F55_R5 (fun y => κ.exit 0 (SSh.mk' ⟨[(1, (.pv (.int .i64)))], []⟩ y)) (fun y => κ.ret (SSh.mk' ⟨[(4, (.pv (.int .i64)))], []⟩ y))⟩]
theorem L55_5 : RoundEq E55 L55 L55[0] (nthLoop (codeOf Tryz.f55) 0) := fun κ N x => by kernel_rfl
theorem C55_ok : QuietOk Tryz.prog 55 C55 := tQ E55 L55 [nthLoop (codeOf Tryz.f55) 0] Tryz.func55 ty_ok (.cons C85_ok .nil) (.cons L55[0] (by kernel_rfl) L55_5 .nil)
noncomputable def F86 (a0 : D89) (a1 : Int) : Option (Int × Unit) :=
 (cond (decide ((IntKind.wrap IntKind.i64 (a1 - (((List.length a0.1) : Nat) : Int))) < (0 : Int)))
 (some ((-(1 : Int)), ()))
 (Option.bind (F123 a0.2.2.2.1 (IntKind.wrap IntKind.i64 (a1 - (((List.length a0.1) : Nat) : Int)))) fun y1 =>
 (cond (decide (y1.1 < (0 : Int)))
 (some ((-(1 : Int)), ()))
 (some (y1.1, ())))))
noncomputable def C86 : Fun := ⟨[(.ro Y89), (.ro (.int .i64))], [((.int .i64), .z)], fun z => F86 z.1 z.2.1⟩
noncomputable def E86 : Env := ⟨19, tyTab tys, oneTab ones, fnTab [(123, C123)], false, [], [(4, [1, 2], []), (7, [1], []), (99999, [4], [])], none, []⟩
noncomputable def L86 : List (LoopS (Int × Unit)) := []
theorem C86_ok : QuietOk Tryz.prog 86 C86 := tQ E86 L86 [] Tryz.func86 ty_ok (.cons C123_ok .nil) .nil
noncomputable def F56_R5 (e0_0 : Int × Unit → Option (Int × Unit)) (er_1 : Int × Unit → Option (Int × Unit)) (rec : List (D89) × Int × Int × Unit → Option (Int × Unit)) (x3 : List (D89) × Int × Int × Unit) : Option (Int × Unit) :=
 (cond (decide (x3.2.2.1 < (((List.length x3.1) : Nat) : Int)))
 (gd (decide ((0 : Int) ≤ x3.2.2.1))
 (Option.bind x3.1[(Int.toNat x3.2.2.1)]? fun y6 =>
 (Option.bind (F86 y6 x3.2.1) fun y7 =>
 (cond (decide (y7.1 < (0 : Int)))
 (er_1 ((-(1 : Int)), ()))
 (rec (x3.1, y7.1, (IntKind.wrap IntKind.i64 (x3.2.2.1 + (1 : Int))), ()))))))
 (e0_0 (x3.2.1, ())))
noncomputable def F56 (a0 : List (D89)) (a1 : Int) : Option (Int × Unit) :=
 (cond (decide ((IntKind.wrap IntKind.i64 (a1 - (((List.length a0) : Nat) : Int))) < (0 : Int)))
 (some ((-(1 : Int)), ()))
 (iter (F56_R5
 (fun y8 =>
 (some (y8.1, ())))
 (fun y9 =>
 (some (y9.1, ())))) fuel (a0, (IntKind.wrap IntKind.i64 (a1 - (((List.length a0) : Nat) : Int))), (0 : Int), ())))
noncomputable def C56 : Fun := ⟨[(.ro (.slice Y89)), (.ro (.int .i64))], [((.int .i64), .z)], fun z => F56 z.1 z.2.1⟩
noncomputable def E56 : Env := ⟨27, tyTab tys, oneTab ones, fnTab [(86, C86)], false, [], [(4, [0, 1], []), (5, [0, 1, 5], []), (6, [0, 1, 5], []), (7, [0, 1, 5], []), (10, [1], []), (100000, [1], []), (100001, [0, 1, 5], []), (99999, [4], [])], none, []⟩
noncomputable def L56 : List (LoopS (Int × Unit)) := [⟨5, ⟨[(0, (.pv (.slice Y89))), (1, (.pv (.int .i64))), (5, (.pv (.int .i64)))], []⟩, fun κ => F56_R5 (fun y => κ.exit 0 (SSh.mk' ⟨[(1, (.pv (.int .i64)))], []⟩ y)) (fun y => κ.ret (SSh.mk' ⟨[(4, (.pv (.int .i64)))], []⟩ y))⟩]
theorem L56_5 : RoundEq E56 L56 L56[0] (nthLoop (codeOf Tryz.f56) 0) := fun κ N x => by kernel_rfl
theorem C56_ok : QuietOk Tryz.prog 56 C56 := tQ E56 L56 [nthLoop (codeOf Tryz.f56) 0] Tryz.func56 ty_ok (.cons C86_ok .nil) (.cons L56[0] (by kernel_rfl) L56_5 .nil)
noncomputable def F28 (a0 : D48) (a1 : Int) : Option (Int × Unit) :=
 (Option.bind (F55 a0.2.2.1 a1) fun y0 =>
 (cond (decide (y0.1 < (0 : Int)))
 (some ((-(1 : Int)), ()))
 (Option.bind (F56 a0.2.2.2.1 y0.1) fun y2 =>
 (cond (decide (y2.1 < (0 : Int)))
 (some ((-(1 : Int)), ()))
 (some (y2.1, ()))))))
noncomputable def C28 : Fun := ⟨[(.ro Y48), (.ro (.int .i64))], [((.int .i64), .z)], fun z => F28 z.1 z.2.1⟩
noncomputable def E28 : Env := ⟨18, tyTab tys, oneTab ones, fnTab [(55, C55), (56, C56)], false, [], [(4, [1, 2], []), (7, [1], []), (99999, [4], [])], none, []⟩
noncomputable def L28 : List (LoopS (Int × Unit)) := []
theorem C28_ok : QuietOk Tryz.prog 28 C28 := tQ E28 L28 [] Tryz.func28 ty_ok (.cons C55_ok (.cons C56_ok .nil)) .nil
noncomputable def F14_R5 (e0_0 : Int × Unit → Option (Int × Unit)) (er_1 : Int × Unit → Option (Int × Unit)) (rec : List (D48) × Int × Int × Unit → Option (Int × Unit)) (x3 : List (D48) × Int × Int × Unit) : Option (Int × Unit) :=
 (cond (decide (x3.2.2.1 < (((List.length x3.1) : Nat) : Int)))
 (gd (decide ((0 : Int) ≤ x3.2.2.1))
 (Option.bind x3.1[(Int.toNat x3.2.2.1)]? fun y6 =>
 (Option.bind (F28 y6 x3.2.1) fun y7 =>
 (cond (decide (y7.1 < (0 : Int)))
 (er_1 ((-(1 : Int)), ()))
 (rec (x3.1, y7.1, (IntKind.wrap IntKind.i64 (x3.2.2.1 + (1 : Int))), ()))))))
 (e0_0 (x3.2.1, ())))
noncomputable def F14 (a0 : List (D48)) (a1 : Int) : Option (Int × Unit) :=
 (cond (decide ((IntKind.wrap IntKind.i64 (a1 - (((List.length a0) : Nat) : Int))) < (0 : Int)))
 (some ((-(1 : Int)), ()))
 (iter (F14_R5
 (fun y8 =>
 (some (y8.1, ())))
 (fun y9 =>
 (some (y9.1, ())))) fuel (a0, (IntKind.wrap IntKind.i64 (a1 - (((List.length a0) : Nat) : Int))), (0 : Int), ())))
noncomputable def C14 : Fun := ⟨[(.ro (.slice Y48)), (.ro (.int .i64))], [((.int .i64), .z)], fun z => F14 z.1 z.2.1⟩
noncomputable def E14 : Env := ⟨27, tyTab tys, oneTab ones, fnTab [(28, C28)], false, [], [(4, [0, 1], []), (5, [0, 1, 5], []), (6, [0, 1, 5], []), (7, [0, 1, 5], []), (10, [1], []), (100000, [1], []), (100001, [0, 1, 5], []), (99999, [4], [])], none, []⟩
noncomputable def L14 : List (LoopS (Int × Unit)) := [⟨5, ⟨[(0, (.pv (.slice Y48))), (1, (.pv (.int .i64))), (5, (.pv (.int .i64)))], []⟩, fun κ => F14_R5 (fun y => κ.exit 0 (SSh.mk' ⟨[(1, (.pv (.int .i64)))], []⟩ y)) (fun y => κ.ret (SSh.mk' ⟨[(4, (.pv (.int .i64)))], []⟩ y))⟩]
theorem L14_5 : RoundEq E14 L14 L14[0] (nthLoop (codeOf Tryz.f14) 0) := fun κ N x => by kernel_rfl
theorem C14_ok : QuietOk Tryz.prog 14 C14 := tQ E14 L14 [nthLoop (codeOf Tryz.f14) 0] Tryz.func14 ty_ok (.cons C28_ok .nil) (.cons L14[0] (by kernel_rfl) L14_5 .nil)
noncomputable def F87 (a0 : D142) (a1 : Int) : Option (Int × Unit) :=
 (Option.bind (F86 a0.1 a1) fun y0 =>
 (cond (decide (y0.1 < (0 : Int)))
 (some ((-(1 : Int)), ()))
 (Option.bind (F123 a0.2.1 y0.1) fun y2 =>
 (cond (decide (y2.1 < (0 : Int)))
 (some ((-(1 : Int)), ()))
 (some (y2.1, ()))))))
noncomputable def C87 : Fun := ⟨[(.ro Y142), (.ro (.int .i64))], [((.int .i64), .z)], fun z => F87 z.1 z.2.1⟩
noncomputable def E87 : Env := ⟨18, tyTab tys, oneTab ones, fnTab [(86, C86), (123, C123)], false, [], [(4, [1, 2], []), (7, [1], []), (99999, [4], [])], none, []⟩
noncomputable def L87 : List (LoopS (Int × Unit)) := []
theorem C87_ok : QuietOk Tryz.prog 87 C87 := tQ E87 L87 [] Tryz.func87 ty_ok (.cons C86_ok (.cons C123_ok .nil)) .nil
noncomputable def F57_R5 (e0_0 : Int × Unit → Option (Int × Unit)) (er_1 : Int × Unit → Option (Int × Unit)) (rec : List (D142) × Int × Int × Unit → Option (Int × Unit)) (x3 : List (D142) × Int × Int × Unit) : Option (Int × Unit) :=
 (cond (decide (x3.2.2.1 < (((List.length x3.1) : Nat) : Int)))
 (gd (decide ((0 : Int) ≤ x3.2.2.1))
 (Option.bind x3.1[(Int.toNat x3.2.2.1)]? fun y6 =>
 (Option.bind (F87 y6 x3.2.1) fun y7 =>
 (cond (decide (y7.1 < (0 : Int)))
 (er_1 ((-(1 : Int)), ()))
 (rec (x3.1, y7.1, (IntKind.wrap IntKind.i64 (x3.2.2.1 + (1 : Int))), ()))))))
 (e0_0 (x3.2.1, ())))
noncomputable def F57 (a0 : List (D142)) (a1 : Int) : Option (Int × Unit) :=
 (cond (decide ((IntKind.wrap IntKind.i64 (a1 - (((List.length a0) : Nat) : Int))) < (0 : Int)))
 (some ((-(1 : Int)), ()))
 (iter (F57_R5
 (fun y8 =>
 (some (y8.1, ())))
 (fun y9 =>
 (some (y9.1, ())))) fuel (a0, (IntKind.wrap IntKind.i64 (a1 - (((List.length a0) : Nat) : Int))), (0 : Int), ())))
noncomputable def C57 : Fun := ⟨[(.ro (.slice Y142)), (.ro (.int .i64))], [((.int .i64), .z)], fun z => F57 z.1 z.2.1⟩
noncomputable def E57 : Env := ⟨27, tyTab tys, oneTab ones, fnTab [(87, C87)], false, [], [(4, [0, 1], []), (5, [0, 1, 5], []), (6, [0, 1, 5], []), (7, [0, 1, 5], []), (10, [1], []), (100000, [1], []), (100001, [0, 1, 5], []), (99999, [4], [])], none, []⟩
noncomputable def L57 : List (LoopS (Int × Unit)) := [⟨5, ⟨[(0, (.pv (.slice Y142))), (1, (.pv (.int .i64))), (5, (.pv (.int .i64)))], []⟩, fun κ => F57_R5 (fun y => κ.exit 0 (SSh.mk' ⟨[(1, (.pv (.int .i64)))], []⟩ y)) (fun y => κ.ret (SSh.mk' ⟨[(4, (.pv (.int .i64)))], []⟩ y))⟩]
theorem L57_5 : RoundEq E57 L57 L57[0] (nthLoop (codeOf Tryz.f57) 0) := fun κ N x => by kernel_rfl
theorem C57_ok : QuietOk Tryz.prog 57 C57 := tQ E57 L57 [nthLoop (codeOf Tryz.f57) 0] Tryz.func57 ty_ok (.cons C87_ok .nil) (.cons L57[0] (by kernel_rfl) L57_5 .nil)
noncomputable def F29 (a0 : D71) (a1 : Int) : Option (Int × Unit) :=
 (Option.bind (F55 a0.2.2.1 a1) fun y0 =>
 (cond (decide (y0.1 < (0 : Int)))
 (some ((-(1 : Int)), ()))
 (Option.bind (F57 a0.2.2.2.1 y0.1) fun y2 =>
 (cond (decide (y2.1 < (0 : Int)))
 (some ((-(1 : Int)), ()))
 (some (y2.1, ()))))))
noncomputable def C29 : Fun := ⟨[(.ro Y71), (.ro (.int .i64))], [((.int .i64), .z)], fun z => F29 z.1 z.2.1⟩
noncomputable def E29 : Env := ⟨18, tyTab tys, oneTab ones, fnTab [(55, C55), (57, C57)], false, [], [(4, [1, 2], []), (7, [1], []), (99999, [4], [])], none, []⟩
noncomputable def L29 : List (LoopS (Int × Unit)) := []
theorem C29_ok : QuietOk Tryz.prog 29 C29 := tQ E29 L29 [] Tryz.func29 ty_ok (.cons C55_ok (.cons C57_ok .nil)) .nil
noncomputable def F15_R5 (e0_0 : Int × Unit → Option (Int × Unit)) (er_1 : Int × Unit → Option (Int × Unit)) (rec : List (D71) × Int × Int × Unit → Option (Int × Unit)) (x3 : List (D71) × Int × Int × Unit) : Option (Int × Unit) :=
 (cond (decide (x3.2.2.1 < (((List.length x3.1) : Nat) : Int)))
 (gd (decide ((0 : Int) ≤ x3.2.2.1))
 (Option.bind x3.1[(Int.toNat x3.2.2.1)]? fun y6 =>
 (Option.bind (F29 y6 x3.2.1) fun y7 =>
 (cond (decide (y7.1 < (0 : Int)))
 (er_1 ((-(1 : Int)), ()))
 (rec (x3.1, y7.1, (IntKind.wrap IntKind.i64 (x3.2.2.1 + (1 : Int))), ()))))))
 (e0_0 (x3.2.1, ())))
noncomputable def F15 (a0 : List (D71)) (a1 : Int) : Option (Int × Unit) :=
 (cond (decide ((IntKind.wrap IntKind.i64 (a1 - (((List.length a0) : Nat) : Int))) < (0 : Int)))
 (some ((-(1 : Int)), ()))
 (iter (F15_R5
 (fun y8 =>
 (some (y8.1, ())))
 (fun y9 =>
 (some (y9.1, ())))) fuel (a0, (IntKind.wrap IntKind.i64 (a1 - (((List.length a0) : Nat) : Int))), (0 : Int), ())))
noncomputable def C15 : Fun := ⟨[(.ro (.slice Y71)), (.ro (.int .i64))], [((.int .i64), .z)], fun z => F15 z.1 z.2.1⟩
noncomputable def E15 : Env := ⟨27, tyTab tys, oneTab ones, fnTab [(29, C29)], false, [], [(4, [0, 1], []), (5, [0, 1, 5], []), (6, [0, 1, 5], []), (7, [0, 1, 5], []), (10, [1], []), (100000, [1], []), (100001, [0, 1, 5], []), (99999, [4], [])], none, []⟩
noncomputable def L15 : List (LoopS (Int × Unit)) := [⟨5, ⟨[(0, (.pv (.slice Y71))), (1, (.pv (.int .i64))), (5, (.pv (.int .i64)))], []⟩, fun κ => F15_R5 (fun y => κ.exit 0 (SSh.mk' ⟨[(1, (.pv (.int .i64)))], []⟩ y)) (fun y => κ.ret (SSh.mk' ⟨[(4, (.pv (.int .i64)))], []⟩ y))⟩]
theorem L15_5 : RoundEq E15 L15 L15[0] (nthLoop (codeOf Tryz.f15) 0) := fun κ N x => by kernel_rfl
theorem C15_ok : QuietOk Tryz.prog 15 C15 := tQ E15 L15 [nthLoop (codeOf Tryz.f15) 0] Tryz.func15 ty_ok (.cons C29_ok .nil) (.cons L15[0] (by kernel_rfl) L15_5 .nil)
noncomputable def F4 (a0 : D25) (a1 : Int) : Option (Int × Unit) :=
 (Option.bind (F13 a0.1 a1) fun y0 =>
 (cond (decide (y0.1 < (0 : Int)))
 (some ((-(1 : Int)), ()))
 (Option.bind (F14 a0.2.1 y0.1) fun y2 =>
 (cond (decide (y2.1 < (0 : Int)))
 (some ((-(1 : Int)), ()))
 (Option.bind (F15 a0.2.2.1 y2.1) fun y4 =>
 (cond (decide (y4.1 < (0 : Int)))
 (some ((-(1 : Int)), ()))
 (some (y4.1, ()))))))))
noncomputable def C4 : Fun := ⟨[(.ro Y25), (.ro (.int .i64))], [((.int .i64), .z)], fun z => F4 z.1 z.2.1⟩
noncomputable def E4 : Env := ⟨24, tyTab tys, oneTab ones, fnTab [(13, C13), (14, C14), (15, C15)], false, [], [(4, [1, 2], []), (7, [1, 2], []), (10, [1], []), (99999, [4], [])], none, []⟩
noncomputable def L4 : List (LoopS (Int × Unit)) := []
theorem C4_ok : QuietOk Tryz.prog 4 C4 := tQ E4 L4 [] Tryz.func4 ty_ok (.cons C13_ok (.cons C14_ok (.cons C15_ok .nil))) .nil
noncomputable def F30 (a0 : Int) (a1 : Int) (a2 : Int) : Option (Bool × Unit) :=
 (cond (decide (a1 ≤ a0))
 (some ((decide (a0 ≤ a2)), ()))
 (some (false, ())))
noncomputable def C30 : Fun := ⟨[(.ro (.int .i64)), (.ro (.int .i64)), (.ro (.int .i64))], [(.bool, .z)], fun z => F30 z.1 z.2.1 z.2.2.1⟩
noncomputable def E30 : Env := ⟨15, tyTab tys, oneTab ones, fnTab [], false, [], [(99999, [6], [])], none, []⟩
noncomputable def L30 : List (LoopS (Bool × Unit)) := []
theorem C30_ok : QuietOk Tryz.prog 30 C30 := tQ E30 L30 [] Tryz.func30 ty_ok .nil .nil
noncomputable def F178 (a0 : Int) : Option (Bool × Unit) :=
 (cond (decide (a0 ≥ (97 : Int)))
 (cond (decide (a0 ≤ (122 : Int)))
 (some (true, ()))
 (cond (decide (a0 ≥ (65 : Int)))
 (cond (decide (a0 ≤ (90 : Int)))
 (some (true, ()))
 (some ((a0 == (95 : Int)), ())))
 (some ((a0 == (95 : Int)), ()))))
 (cond (decide (a0 ≥ (65 : Int)))
 (cond (decide (a0 ≤ (90 : Int)))
 (some (true, ()))
 (some ((a0 == (95 : Int)), ())))
 (some ((a0 == (95 : Int)), ()))))
noncomputable def C178 : Fun := ⟨[(.ro (.int .u8))], [(.bool, .z)], fun z => F178 z.1⟩
noncomputable def E178 : Env := ⟨21, tyTab tys, oneTab ones, fnTab [], false, [], [(99999, [2], [])], none, []⟩
noncomputable def L178 : List (LoopS (Bool × Unit)) := []
theorem C178_ok : QuietOk Tryz.prog 178 C178 := tQ E178 L178 [] Tryz.func178 ty_ok .nil .nil
noncomputable def F179 (a0 : Int) : Option (Bool × Unit) :=
 (cond (decide (a0 ≥ (48 : Int)))
 (some ((decide (a0 ≤ (57 : Int))), ()))
 (some (false, ())))
noncomputable def C179 : Fun := ⟨[(.ro (.int .u8))], [(.bool, .z)], fun z => F179 z.1⟩
noncomputable def E179 : Env := ⟨9, tyTab tys, oneTab ones, fnTab [], false, [], [(99999, [2], [])], none, []⟩
noncomputable def L179 : List (LoopS (Bool × Unit)) := []
theorem C179_ok : QuietOk Tryz.prog 179 C179 := tQ E179 L179 [] Tryz.func179 ty_ok .nil .nil
noncomputable def F157_R4 (e0_0 : Unit → Option (Bool × Unit)) (er_1 : Bool × Unit → Option (Bool × Unit)) (rec : List UInt8 × Int × Unit → Option (Bool × Unit)) (x5 : List UInt8 × Int × Unit) : Option (Bool × Unit) :=
 (cond (decide (x5.2.1 < (((List.length x5.1) : Nat) : Int)))
 (let j12 : List UInt8 × Int × Unit → Option (Bool × Unit) := fun (y13 : List UInt8 × Int × Unit) =>
 (rec (y13.1, (IntKind.wrap IntKind.i64 (y13.2.1 + (1 : Int))), ()))
 (gd (decide ((0 : Int) ≤ x5.2.1))
 (Option.bind x5.1[(Int.toNat x5.2.1)]? fun y8 =>
 (Option.bind (F178 (((UInt8.toNat y8) : Nat) : Int)) fun y9 =>
 (cond (!y9.1)
 (gd (decide ((0 : Int) ≤ x5.2.1))
 (Option.bind x5.1[(Int.toNat x5.2.1)]? fun y10 =>
 (Option.bind (F179 (((UInt8.toNat y10) : Nat) : Int)) fun y11 =>
 (cond (!y11.1)
 (er_1 (false, ()))
 (j12 (x5.1, x5.2.1, ()))))))
 (j12 (x5.1, x5.2.1, ())))))))
 (e0_0 (())))
noncomputable def F157 (a0 : List UInt8) : Option (Bool × Unit) :=
 (cond (decide ((((List.length a0) : Nat) : Int) < (1 : Int)))
 (some (false, ()))
 (cond (decide ((((List.length a0) : Nat) : Int) > (40 : Int)))
 (some (false, ()))
 (Option.bind a0[(Int.toNat (0 : Int))]? fun y1 =>
 (Option.bind (F178 (((UInt8.toNat y1) : Nat) : Int)) fun y2 =>
 (cond (!y2.1)
 (some (false, ()))
 (iter (F157_R4
 (fun y14 =>
 (some (true, ())))
 (fun y15 =>
 (some (y15.1, ())))) fuel (a0, (1 : Int), ())))))))
noncomputable def C157 : Fun := ⟨[(.ro .str)], [(.bool, .z)], fun z => F157 z.1⟩
noncomputable def E157 : Env := ⟨36, tyTab tys, oneTab ones, fnTab [(178, C178), (179, C179)], false, [], [(3, [0], []), (4, [0, 3], []), (5, [0, 3], []), (6, [0, 3], []), (8, [], []), (100000, [], []), (100001, [0, 3], []), (99999, [2], [])], none, []⟩
noncomputable def L157 : List (LoopS (Bool × Unit)) := [⟨4, ⟨[(0, (.pv .str)), (3, (.pv (.int .i64)))], []⟩, fun κ => F157_R4 (fun y => κ.exit 0 (SSh.mk' ⟨[], []⟩ y)) (fun y => κ.ret (SSh.mk' ⟨[(2, (.pv .bool))], []⟩ y))⟩]
theorem L157_4 : RoundEq E157 L157 L157[0] (nthLoop (codeOf Tryz.f157) 0) := fun κ N x => by kernel_rfl
theorem C157_ok : QuietOk Tryz.prog 157 C157 := tQ E157 L157 [nthLoop (codeOf Tryz.f157) 0] Tryz.func157 ty_ok (.cons C178_ok (.cons C179_ok .nil)) (.cons L157[0] (by kernel_rfl) L157_4 .nil)
noncomputable def F124 (a0 : List UInt8) : Option (Bool × Unit) :=
 (Option.bind (F157 a0) fun y0 =>
 (some (y0.1, ())))
noncomputable def C124 : Fun := ⟨[(.ro .str)], [(.bool, .z)], fun z => F124 z.1⟩
noncomputable def E124 : Env := ⟨5, tyTab tys, oneTab ones, fnTab [(157, C157)], false, [], [(99999, [2], [])], none, []⟩
noncomputable def L124 : List (LoopS (Bool × Unit)) := []
theorem C124_ok : QuietOk Tryz.prog 124 C124 := tQ E124 L124 [] Tryz.func124 ty_ok (.cons C157_ok .nil) .nil
noncomputable def F88 (a0 : List UInt8) : Option (Bool × Unit) :=
 (Option.bind (F124 a0) fun y0 =>
 (cond y0.1
 (some ((decide ((((List.length a0) : Nat) : Int) ≤ (12 : Int))), ()))
 (some (false, ()))))
noncomputable def C88 : Fun := ⟨[(.ro .str)], [(.bool, .z)], fun z => F88 z.1⟩
noncomputable def E88 : Env := ⟨10, tyTab tys, oneTab ones, fnTab [(124, C124)], false, [], [(99999, [2], [])], none, []⟩
noncomputable def L88 : List (LoopS (Bool × Unit)) := []
theorem C88_ok : QuietOk Tryz.prog 88 C88 := tQ E88 L88 [] Tryz.func88 ty_ok (.cons C124_ok .nil) .nil
noncomputable def F158_R4 (e0_0 : List UInt8 × Int × List (List UInt8) × Unit → Option (List (List UInt8) × Unit)) (rec : List UInt8 × Int × Int × Int × List (List UInt8) × Unit → Option (List (List UInt8) × Unit)) (x2 : List UInt8 × Int × Int × Int × List (List UInt8) × Unit) : Option (List (List UInt8) × Unit) :=
 (cond (decide (x2.2.2.2.1 < (((List.length x2.1) : Nat) : Int)))
 (let j6 : List UInt8 × Int × Int × Int × List (List UInt8) × Unit → Option (List (List UInt8) × Unit) := fun (y7 : List UInt8 × Int × Int × Int × List (List UInt8) × Unit) =>
 (rec (y7.1, y7.2.1, y7.2.2.1, (IntKind.wrap IntKind.i64 (y7.2.2.2.1 + (1 : Int))), y7.2.2.2.2.1, ()))
 (gd (decide ((0 : Int) ≤ x2.2.2.2.1))
 (Option.bind x2.1[(Int.toNat x2.2.2.2.1)]? fun y5 =>
 (cond ((((UInt8.toNat y5) : Nat) : Int) == x2.2.1)
 (gd (decide ((0 : Int) ≤ x2.2.2.2.1))
 (gd (decide (x2.2.2.2.1 ≤ (((List.length x2.1) : Nat) : Int)))
 (gd (decide ((0 : Int) ≤ x2.2.2.1))
 (gd (decide (x2.2.2.1 ≤ (((Int.toNat x2.2.2.2.1) : Nat) : Int)))
 (gd (decide (((List.length x2.2.2.2.2.1) + (List.length [(List.drop (Int.toNat x2.2.2.1) (List.take (Int.toNat x2.2.2.2.1) x2.1))])) ≤ lim))
 (j6 (x2.1, x2.2.1, (IntKind.wrap IntKind.i64 (x2.2.2.2.1 + (1 : Int))), x2.2.2.2.1, (x2.2.2.2.2.1 ++ [(List.drop (Int.toNat x2.2.2.1) (List.take (Int.toNat x2.2.2.2.1) x2.1))]), ())))))))
 (j6 (x2.1, x2.2.1, x2.2.2.1, x2.2.2.2.1, x2.2.2.2.2.1, ()))))))
 (e0_0 (x2.1, x2.2.2.1, x2.2.2.2.2.1, ())))
noncomputable def F158 (a0 : List UInt8) (a1 : Int) : Option (List (List UInt8) × Unit) :=
 (iter (F158_R4
 (fun y8 =>
 (gd (decide ((((List.length y8.1) : Nat) : Int) ≤ (((List.length y8.1) : Nat) : Int)))
 (gd (decide ((0 : Int) ≤ y8.2.1))
 (gd (decide (y8.2.1 ≤ (((Int.toNat (((List.length y8.1) : Nat) : Int)) : Nat) : Int)))
 (gd (decide (((List.length y8.2.2.1) + (List.length [(List.drop (Int.toNat y8.2.1) (List.take (Int.toNat (((List.length y8.1) : Nat) : Int)) y8.1))])) ≤ lim))
 (some ((y8.2.2.1 ++ [(List.drop (Int.toNat y8.2.1) (List.take (Int.toNat (((List.length y8.1) : Nat) : Int)) y8.1))]), ())))))))) fuel (a0, a1, (0 : Int), (0 : Int), [], ()))
noncomputable def C158 : Fun := ⟨[(.ro .str), (.ro (.int .u8))], [((.slice .str), .z)], fun z => F158 z.1 z.2.1⟩
noncomputable def E158 : Env := ⟨35, tyTab tys, oneTab ones, fnTab [], false, [], [(4, [0, 1, 5, 6, 7], []), (5, [0, 1, 5, 6, 7], []), (6, [0, 1, 5, 6, 7], []), (9, [0, 5, 6], []), (100000, [0, 5, 6], []), (100001, [0, 1, 5, 6, 7], []), (99999, [4], [])], none, []⟩
noncomputable def L158 : List (LoopS (List (List UInt8) × Unit)) := [⟨4, ⟨[(0, (.pv .str)), (1, (.pv (.int .u8))), (5, (.ref (.slice .str) 64 [])), (6, (.pv (.int .i64))), (7, (.pv (.int .i64)))], [(64, (.data false (.slice .str) (.own .z)))]⟩, fun κ => F158_R4 (fun y => κ.exit 0 (SSh.mk' ⟨[(0, (.pv .str)), (5, (.ref (.slice .str) 64 [])), (6, (.pv (.int .i64)))], [(64, (.data false (.slice .str) (.own .z)))]⟩ y))⟩]
theorem L158_4 : RoundEq E158 L158 L158[0] (nthLoop (codeOf Tryz.f158) 0) := fun κ N x => by kernel_rfl
theorem C158_ok : QuietOk Tryz.prog 158 C158 := tQ E158 L158 [nthLoop (codeOf Tryz.f158) 0] Tryz.func158 ty_ok .nil (.cons L158[0] (by kernel_rfl) L158_4 .nil)
noncomputable def F125_R7 (e0_0 : Unit → Option (Bool × Unit)) (er_1 : Bool × Unit → Option (Bool × Unit)) (rec : List (List UInt8) × Int × Unit → Option (Bool × Unit)) (x5 : List (List UInt8) × Int × Unit) : Option (Bool × Unit) :=
 (cond (decide (x5.2.1 < (((List.length x5.1) : Nat) : Int)))
 (gd (decide ((0 : Int) ≤ x5.2.1))
 (Option.bind x5.1[(Int.toNat x5.2.1)]? fun y8 =>
 (Option.bind (F88 y8) fun y9 =>
 (cond (!y9.1)
 (er_1 (false, ()))
 (rec (x5.1, (IntKind.wrap IntKind.i64 (x5.2.1 + (1 : Int))), ()))))))
 (e0_0 (())))
noncomputable def F125 (a0 : List UInt8) : Option (Bool × Unit) :=
 (cond (decide ((((List.length a0) : Nat) : Int) > (65536 : Int)))
 (some (false, ()))
 (Option.bind (F158 a0 (46 : Int)) fun y1 =>
 (cond (decide ((((List.length y1.1) : Nat) : Int) > (4 : Int)))
 (some (false, ()))
 (cond (decide ((((List.length a0) : Nat) : Int) > (50 : Int)))
 (some (false, ()))
 (iter (F125_R7
 (fun y10 =>
 (some (true, ())))
 (fun y11 =>
 (some (y11.1, ())))) fuel (y1.1, (0 : Int), ()))))))
noncomputable def C125 : Fun := ⟨[(.ro .str)], [(.bool, .z)], fun z => F125 z.1⟩
noncomputable def E125 : Env := ⟨30, tyTab tys, oneTab ones, fnTab [(88, C88), (158, C158)], false, [], [(3, [0], []), (6, [3], []), (7, [3, 4], []), (8, [3, 4], []), (9, [3, 4], []), (11, [], []), (100000, [], []), (100001, [3, 4], []), (99999, [2], [])], none, []⟩
noncomputable def L125 : List (LoopS (Bool × Unit)) := [⟨7, ⟨[(3, (.pv (.slice .str))), (4, (.pv (.int .i64)))], []⟩, fun κ => F125_R7 (fun y => κ.exit 0 (SSh.mk' ⟨[], []⟩ y)) (fun y => κ.ret (SSh.mk' ⟨[(2, (.pv .bool))], []⟩ y))⟩]
theorem L125_7 : RoundEq E125 L125 L125[0] (nthLoop (codeOf Tryz.f125) 0) := fun κ N x => by kernel_rfl
theorem C125_ok : QuietOk Tryz.prog 125 C125 := tQ E125 L125 [nthLoop (codeOf Tryz.f125) 0] Tryz.func125 ty_ok (.cons C88_ok (.cons C158_ok .nil)) (.cons L125[0] (by kernel_rfl) L125_7 .nil)
noncomputable def F89_R4 (e0_0 : D138 × Unit → Option (Bool × Unit)) (er_1 : Bool × Unit → Option (Bool × Unit)) (rec : Int × D138 × Unit → Option (Bool × Unit)) (x5 : Int × D138 × Unit) : Option (Bool × Unit) :=
 (cond (decide (x5.1 < (((List.length x5.2.1.2.1) : Nat) : Int)))
 (gd (decide ((0 : Int) ≤ x5.1))
 (Option.bind x5.2.1.2.1[(Int.toNat x5.1)]? fun y8 =>
 (Option.bind (F125 y8.1) fun y9 =>
 (cond (!y9.1)
 (er_1 (false, ()))
 (rec ((IntKind.wrap IntKind.i64 (x5.1 + (1 : Int))), x5.2.1, ()))))))
 (e0_0 (x5.2.1, ())))
noncomputable def F89 (a0 : D138) : Option (Bool × Unit) :=
 (Option.bind (F88 a0.1) fun y1 =>
 (cond (!y1.1)
 (some (false, ()))
 (Option.bind (F30 (((List.length a0.2.1) : Nat) : Int) (1 : Int) (2 : Int)) fun y2 =>
 (cond (!y2.1)
 (some (false, ()))
 (iter (F89_R4
 (fun y10 =>
 (cond ((((List.length y10.1.2.1) : Nat) : Int) == (1 : Int))
 (some (true, ()))
 (Option.bind y10.1.2.1[(Int.toNat (0 : Int))]? fun y12 =>
 (Option.bind y10.1.2.1[(Int.toNat (1 : Int))]? fun y13 =>
 (some ((!(y12.1 == y13.1)), ()))))))
 (fun y11 =>
 (some (y11.1, ())))) fuel ((0 : Int), a0, ()))))))
noncomputable def C89 : Fun := ⟨[(.ro Y138)], [(.bool, .z)], fun z => F89 z.1⟩
noncomputable def E89 : Env := ⟨47, tyTab tys, oneTab ones, fnTab [(30, C30), (88, C88), (125, C125)], false, [], [(3, [1], []), (4, [1, 3], []), (5, [1, 3], []), (6, [1, 3], []), (8, [1], []), (100000, [1], []), (100001, [1, 3], []), (99999, [2], [])], none, []⟩
noncomputable def L89 : List (LoopS (Bool × Unit)) := [⟨4, ⟨[(1, (.ptr 8 [])), (3, (.pv (.int .i64)))], [(8, (.data true Y138 .z))]⟩, fun κ => F89_R4 (fun y => κ.exit 0 (SSh.mk' ⟨[(1, (.ptr 8 []))], [(8, (.data true Y138 .z))]⟩ y)) (fun y => κ.ret (SSh.mk' ⟨[(2, (.pv .bool))], []⟩ y))⟩]
theorem L89_4 : RoundEq E89 L89 L89[0] (nthLoop (codeOf Tryz.f89) 0) := fun κ N x => by kernel_rfl
theorem C89_ok : QuietOk Tryz.prog 89 C89 := tQ E89 L89 [nthLoop (codeOf Tryz.f89) 0] Tryz.func89 ty_ok (.cons C30_ok (.cons C88_ok (.cons C125_ok .nil))) (.cons L89[0] (by kernel_rfl) L89_4 .nil)
noncomputable def F208_R3 (e0_0 : Int × Unit → Option (Int × Unit)) (rec : List UInt8 × Int × Int × Unit → Option (Int × Unit)) (x2 : List UInt8 × Int × Int × Unit) : Option (Int × Unit) :=
 (cond (decide (x2.2.2.1 < (((List.length x2.1) : Nat) : Int)))
 (gd (decide ((0 : Int) ≤ x2.2.2.1))
 (Option.bind x2.1[(Int.toNat x2.2.2.1)]? fun y4 =>
 (rec (x2.1, (IntKind.wrap IntKind.i64 ((IntKind.wrap IntKind.i64 (x2.2.1 * (256 : Int))) + (IntKind.wrap IntKind.i64 (((UInt8.toNat y4) : Nat) : Int)))), (IntKind.wrap IntKind.i64 (x2.2.2.1 + (1 : Int))), ()))))
 (e0_0 (x2.2.1, ())))
noncomputable def F208 (a0 : List UInt8) : Option (Int × Unit) :=
 (iter (F208_R3
 (fun y5 =>
 (some (y5.1, ())))) fuel (a0, (0 : Int), (0 : Int), ()))
noncomputable def C208 : Fun := ⟨[(.ro .str)], [((.int .i64), .z)], fun z => F208 z.1⟩
noncomputable def E208 : Env := ⟨19, tyTab tys, oneTab ones, fnTab [], false, [], [(3, [0, 3, 4], []), (5, [0, 3, 4], []), (6, [3], []), (100000, [3], []), (100001, [0, 3, 4], []), (99999, [2], [])], none, []⟩
noncomputable def L208 : List (LoopS (Int × Unit)) := [⟨3, ⟨[(0, (.pv .str)), (3, (.pv (.int .i64))), (4, (.pv (.int .i64)))], []⟩, fun κ => F208_R3 (fun y => κ.exit 0 (SSh.mk' ⟨[(3, (.pv (.int .i64)))], []⟩ y))⟩]
theorem L208_3 : RoundEq E208 L208 L208[0] (nthLoop (codeOf Tryz.f208) 0) := fun κ N x => by kernel_rfl
theorem C208_ok : QuietOk Tryz.prog 208 C208 := tQ E208 L208 [nthLoop (codeOf Tryz.f208) 0] Tryz.func208 ty_ok .nil (.cons L208[0] (by kernel_rfl) L208_3 .nil)
noncomputable def F197 (a0 : List UInt8) : Option (D83 × List UInt8 × Bool × Unit) :=
 (cond ((((List.length a0) : Nat) : Int) == (0 : Int))
 (some (((0 : Int), ((0 : Int), ([], ()))), ([], (false, ()))))
 (Option.bind a0[(Int.toNat (0 : Int))]? fun y1 =>
 (let j13 : List UInt8 × Int × D83 × D83 × Unit → Option (D83 × List UInt8 × Bool × Unit) := fun (y14 : List UInt8 × Int × D83 × D83 × Unit) =>
 (cond (decide ((((List.length y14.1) : Nat) : Int) < (IntKind.wrap IntKind.i64 ((1 : Int) + y14.2.1))))
 (some (((0 : Int), ((0 : Int), ([], ()))), ([], (false, ()))))
 (let j21 : List UInt8 × Int × D83 × D83 × Unit → Option (D83 × List UInt8 × Bool × Unit) := fun (y22 : List UInt8 × Int × D83 × D83 × Unit) =>
 (gd (decide ((((List.length y22.1) : Nat) : Int) ≤ (((List.length y22.1) : Nat) : Int)))
 (gd (decide ((0 : Int) ≤ (IntKind.wrap IntKind.i64 ((1 : Int) + y22.2.1))))
 (gd (decide ((IntKind.wrap IntKind.i64 ((1 : Int) + y22.2.1)) ≤ (((Int.toNat (((List.length y22.1) : Nat) : Int)) : Nat) : Int)))
 (some (y22.2.2.2.1, ((List.drop (Int.toNat (IntKind.wrap IntKind.i64 ((1 : Int) + y22.2.1))) (List.take (Int.toNat (((List.length y22.1) : Nat) : Int)) y22.1)), (true, ())))))))
 (cond (y14.2.1 == (1 : Int))
 (Option.bind y14.1[(Int.toNat (1 : Int))]? fun y17 =>
 (j21 (y14.1, y14.2.1, y14.2.2.1, (y14.2.2.2.1.1, ((IntKind.wrap IntKind.i64 (((UInt8.toNat y17) : Nat) : Int)), y14.2.2.2.1.2.2)), ())))
 (Option.bind y14.1[(Int.toNat (1 : Int))]? fun y19 =>
 (cond (decide ((((UInt8.toNat y19) : Nat) : Int) > (127 : Int)))
 (some (((0 : Int), ((0 : Int), ([], ()))), ([], (false, ()))))
 (gd (decide ((9 : Int) ≤ (((List.length y14.1) : Nat) : Int)))
 (Option.bind (F208 (List.drop (Int.toNat (1 : Int)) (List.take (Int.toNat (9 : Int)) y14.1))) fun y20 =>
 (j21 (y14.1, y14.2.1, y14.2.2.1, (y14.2.2.2.1.1, ((IntKind.wrap IntKind.i64 (y20.1 - (4611686018427387904 : Int))), y14.2.2.2.1.2.2)), ())))))))))
 (cond ((IntKind.wrap IntKind.i64 (((UInt8.toNat y1) : Nat) : Int)) == (0 : Int))
 (gd (decide ((((List.length a0) : Nat) : Int) ≤ (((List.length a0) : Nat) : Int)))
 (gd (decide ((1 : Int) ≤ (((Int.toNat (((List.length a0) : Nat) : Int)) : Nat) : Int)))
 (some (((IntKind.wrap IntKind.i64 (((UInt8.toNat y1) : Nat) : Int)), ((0 : Int), ([], ()))), ((List.drop (Int.toNat (1 : Int)) (List.take (Int.toNat (((List.length a0) : Nat) : Int)) a0)), (true, ()))))))
 (cond ((IntKind.wrap IntKind.i64 (((UInt8.toNat y1) : Nat) : Int)) == (1 : Int))
 (j13 (a0, (1 : Int), ((0 : Int), ((0 : Int), ([], ()))), ((IntKind.wrap IntKind.i64 (((UInt8.toNat y1) : Nat) : Int)), ((0 : Int), ([], ()))), ()))
 (cond ((IntKind.wrap IntKind.i64 (((UInt8.toNat y1) : Nat) : Int)) == (2 : Int))
 (j13 (a0, (8 : Int), ((0 : Int), ((0 : Int), ([], ()))), ((IntKind.wrap IntKind.i64 (((UInt8.toNat y1) : Nat) : Int)), ((0 : Int), ([], ()))), ()))
 (cond ((IntKind.wrap IntKind.i64 (((UInt8.toNat y1) : Nat) : Int)) == (3 : Int))
 (cond ((IntKind.wrap IntKind.i64 (((UInt8.toNat y1) : Nat) : Int)) == (3 : Int))
 (cond (decide ((((List.length a0) : Nat) : Int) < (3 : Int)))
 (some (((0 : Int), ((0 : Int), ([], ()))), ([], (false, ()))))
 (gd (decide ((3 : Int) ≤ (((List.length a0) : Nat) : Int)))
 (Option.bind (F208 (List.drop (Int.toNat (1 : Int)) (List.take (Int.toNat (3 : Int)) a0))) fun y5 =>
 (cond (decide ((((List.length a0) : Nat) : Int) < (IntKind.wrap IntKind.i64 ((3 : Int) + y5.1))))
 (some (((0 : Int), ((0 : Int), ([], ()))), ([], (false, ()))))
 (gd (decide ((0 : Int) ≤ (IntKind.wrap IntKind.i64 ((3 : Int) + y5.1))))
 (gd (decide ((IntKind.wrap IntKind.i64 ((3 : Int) + y5.1)) ≤ (((List.length a0) : Nat) : Int)))
 (gd (decide ((3 : Int) ≤ (((Int.toNat (IntKind.wrap IntKind.i64 ((3 : Int) + y5.1))) : Nat) : Int)))
 (gd (decide ((((List.length a0) : Nat) : Int) ≤ (((List.length a0) : Nat) : Int)))
 (gd (decide ((0 : Int) ≤ (IntKind.wrap IntKind.i64 ((3 : Int) + y5.1))))
 (gd (decide ((IntKind.wrap IntKind.i64 ((3 : Int) + y5.1)) ≤ (((Int.toNat (((List.length a0) : Nat) : Int)) : Nat) : Int)))
 (some (((IntKind.wrap IntKind.i64 (((UInt8.toNat y1) : Nat) : Int)), ((0 : Int), ((List.drop (Int.toNat (3 : Int)) (List.take (Int.toNat (IntKind.wrap IntKind.i64 ((3 : Int) + y5.1))) a0)), ()))), ((List.drop (Int.toNat (IntKind.wrap IntKind.i64 ((3 : Int) + y5.1))) (List.take (Int.toNat (((List.length a0) : Nat) : Int)) a0)), (true, ()))))))))))))))
 (some (((0 : Int), ((0 : Int), ([], ()))), ([], (false, ())))))
 (cond ((IntKind.wrap IntKind.i64 (((UInt8.toNat y1) : Nat) : Int)) == (4 : Int))
 (cond ((IntKind.wrap IntKind.i64 (((UInt8.toNat y1) : Nat) : Int)) == (4 : Int))
 (cond (decide ((((List.length a0) : Nat) : Int) < (3 : Int)))
 (some (((0 : Int), ((0 : Int), ([], ()))), ([], (false, ()))))
 (gd (decide ((3 : Int) ≤ (((List.length a0) : Nat) : Int)))
 (Option.bind (F208 (List.drop (Int.toNat (1 : Int)) (List.take (Int.toNat (3 : Int)) a0))) fun y8 =>
 (cond (decide ((((List.length a0) : Nat) : Int) < (IntKind.wrap IntKind.i64 ((3 : Int) + y8.1))))
 (some (((0 : Int), ((0 : Int), ([], ()))), ([], (false, ()))))
 (gd (decide ((0 : Int) ≤ (IntKind.wrap IntKind.i64 ((3 : Int) + y8.1))))
 (gd (decide ((IntKind.wrap IntKind.i64 ((3 : Int) + y8.1)) ≤ (((List.length a0) : Nat) : Int)))
 (gd (decide ((3 : Int) ≤ (((Int.toNat (IntKind.wrap IntKind.i64 ((3 : Int) + y8.1))) : Nat) : Int)))
 (gd (decide ((((List.length a0) : Nat) : Int) ≤ (((List.length a0) : Nat) : Int)))
 (gd (decide ((0 : Int) ≤ (IntKind.wrap IntKind.i64 ((3 : Int) + y8.1))))
 (gd (decide ((IntKind.wrap IntKind.i64 ((3 : Int) + y8.1)) ≤ (((Int.toNat (((List.length a0) : Nat) : Int)) : Nat) : Int)))
 (some (((IntKind.wrap IntKind.i64 (((UInt8.toNat y1) : Nat) : Int)), ((0 : Int), ((List.drop (Int.toNat (3 : Int)) (List.take (Int.toNat (IntKind.wrap IntKind.i64 ((3 : Int) + y8.1))) a0)), ()))), ((List.drop (Int.toNat (IntKind.wrap IntKind.i64 ((3 : Int) + y8.1))) (List.take (Int.toNat (((List.length a0) : Nat) : Int)) a0)), (true, ()))))))))))))))
 (some (((0 : Int), ((0 : Int), ([], ()))), ([], (false, ())))))
 (cond ((IntKind.wrap IntKind.i64 (((UInt8.toNat y1) : Nat) : Int)) == (5 : Int))
 (cond (decide ((((List.length a0) : Nat) : Int) < (3 : Int)))
 (some (((0 : Int), ((0 : Int), ([], ()))), ([], (false, ()))))
 (gd (decide ((3 : Int) ≤ (((List.length a0) : Nat) : Int)))
 (Option.bind (F208 (List.drop (Int.toNat (1 : Int)) (List.take (Int.toNat (3 : Int)) a0))) fun y11 =>
 (cond (decide ((((List.length a0) : Nat) : Int) < (IntKind.wrap IntKind.i64 ((3 : Int) + y11.1))))
 (some (((0 : Int), ((0 : Int), ([], ()))), ([], (false, ()))))
 (gd (decide ((0 : Int) ≤ (IntKind.wrap IntKind.i64 ((3 : Int) + y11.1))))
 (gd (decide ((IntKind.wrap IntKind.i64 ((3 : Int) + y11.1)) ≤ (((List.length a0) : Nat) : Int)))
 (gd (decide ((3 : Int) ≤ (((Int.toNat (IntKind.wrap IntKind.i64 ((3 : Int) + y11.1))) : Nat) : Int)))
 (gd (decide ((((List.length a0) : Nat) : Int) ≤ (((List.length a0) : Nat) : Int)))
 (gd (decide ((0 : Int) ≤ (IntKind.wrap IntKind.i64 ((3 : Int) + y11.1))))
 (gd (decide ((IntKind.wrap IntKind.i64 ((3 : Int) + y11.1)) ≤ (((Int.toNat (((List.length a0) : Nat) : Int)) : Nat) : Int)))
 (some (((IntKind.wrap IntKind.i64 (((UInt8.toNat y1) : Nat) : Int)), ((0 : Int), ((List.drop (Int.toNat (3 : Int)) (List.take (Int.toNat (IntKind.wrap IntKind.i64 ((3 : Int) + y11.1))) a0)), ()))), ((List.drop (Int.toNat (IntKind.wrap IntKind.i64 ((3 : Int) + y11.1))) (List.take (Int.toNat (((List.length a0) : Nat) : Int)) a0)), (true, ()))))))))))))))
 (some (((0 : Int), ((0 : Int), ([], ()))), ([], (false, ())))))))))))))
noncomputable def C197 : Fun := ⟨[(.ro .str)], [(Y83, .z), (.str, .z), (.bool, .z)], fun z => F197 z.1⟩
noncomputable def E197 : Env := ⟨81, tyTab tys, oneTab ones, fnTab [(208, C208)], false, [], [(3, [0, 2], []), (18, [0, 2, 5], []), (21, [0, 2, 5, 7], []), (23, [0, 2, 5, 6], []), (25, [0, 2, 5, 6], []), (29, [0, 2, 5, 6], []), (30, [0, 2, 5, 6], []), (100000, [0, 2, 5, 6], []), (99999, [2, 3, 4], [])], none, []⟩
noncomputable def L197 : List (LoopS (D83 × List UInt8 × Bool × Unit)) := []
theorem C197_ok : QuietOk Tryz.prog 197 C197 := tQ E197 L197 [] Tryz.func197 ty_ok (.cons C208_ok .nil) .nil
noncomputable def F181_R2 (e0_0 : List (D251) × Unit → Option (List (D251) × Bool × Unit)) (er_1 : Bool × List (D251) × Unit → Option (List (D251) × Bool × Unit)) (er_2 : Bool × List (D251) × Unit → Option (List (D251) × Bool × Unit)) (rec : List UInt8 × List (D251) × Unit → Option (List (D251) × Bool × Unit)) (x2 : List UInt8 × List (D251) × Unit) : Option (List (D251) × Bool × Unit) :=
 (cond (decide ((((List.length x2.1) : Nat) : Int) > (0 : Int)))
 (Option.bind x2.1[(Int.toNat (0 : Int))]? fun y4 =>
 (cond (decide ((((List.length x2.1) : Nat) : Int) < (IntKind.wrap IntKind.i64 ((1 : Int) + (IntKind.wrap IntKind.i64 (((UInt8.toNat y4) : Nat) : Int))))))
 (er_1 (false, [], ()))
 (gd (decide ((0 : Int) ≤ (IntKind.wrap IntKind.i64 ((1 : Int) + (IntKind.wrap IntKind.i64 (((UInt8.toNat y4) : Nat) : Int))))))
 (gd (decide ((IntKind.wrap IntKind.i64 ((1 : Int) + (IntKind.wrap IntKind.i64 (((UInt8.toNat y4) : Nat) : Int)))) ≤ (((List.length x2.1) : Nat) : Int)))
 (gd (decide ((1 : Int) ≤ (((Int.toNat (IntKind.wrap IntKind.i64 ((1 : Int) + (IntKind.wrap IntKind.i64 (((UInt8.toNat y4) : Nat) : Int))))) : Nat) : Int)))
 (gd (decide ((((List.length x2.1) : Nat) : Int) ≤ (((List.length x2.1) : Nat) : Int)))
 (gd (decide ((0 : Int) ≤ (IntKind.wrap IntKind.i64 ((1 : Int) + (IntKind.wrap IntKind.i64 (((UInt8.toNat y4) : Nat) : Int))))))
 (gd (decide ((IntKind.wrap IntKind.i64 ((1 : Int) + (IntKind.wrap IntKind.i64 (((UInt8.toNat y4) : Nat) : Int)))) ≤ (((Int.toNat (((List.length x2.1) : Nat) : Int)) : Nat) : Int)))
 (Option.bind (F197 (List.drop (Int.toNat (IntKind.wrap IntKind.i64 ((1 : Int) + (IntKind.wrap IntKind.i64 (((UInt8.toNat y4) : Nat) : Int))))) (List.take (Int.toNat (((List.length x2.1) : Nat) : Int)) x2.1))) fun y6 =>
 (cond (!y6.2.2.1)
 (er_2 (false, [], ()))
 (gd (decide (((List.length x2.2.1) + (List.length [((List.drop (Int.toNat (1 : Int)) (List.take (Int.toNat (IntKind.wrap IntKind.i64 ((1 : Int) + (IntKind.wrap IntKind.i64 (((UInt8.toNat y4) : Nat) : Int))))) x2.1)), (y6.1, ()))])) ≤ lim))
 (rec (y6.2.1, (x2.2.1 ++ [((List.drop (Int.toNat (1 : Int)) (List.take (Int.toNat (IntKind.wrap IntKind.i64 ((1 : Int) + (IntKind.wrap IntKind.i64 (((UInt8.toNat y4) : Nat) : Int))))) x2.1)), (y6.1, ()))]), ())))))))))))))
 (e0_0 (x2.2.1, ())))
noncomputable def F181 (a0 : List UInt8) : Option (List (D251) × Bool × Unit) :=
 (iter (F181_R2
 (fun y8 =>
 (some (y8.1, (true, ()))))
 (fun y9 =>
 (some (y9.2.1, (y9.1, ()))))
 (fun y10 =>
 (some (y10.2.1, (y10.1, ()))))) fuel (a0, [], ()))
noncomputable def C181 : Fun := ⟨[(.ro .str)], [((.slice Y251), .z), (.bool, .z)], fun z => F181 z.1⟩
noncomputable def E181 : Env := ⟨47, tyTab tys, oneTab ones, fnTab [(197, C197)], false, [], [(2, [0, 4], []), (3, [0, 4], []), (6, [0, 4, 5], []), (10, [4, 6, 7, 8], []), (12, [4], []), (100000, [4], []), (100001, [0, 4], []), (99999, [2, 3], [])], none, []⟩
noncomputable def L181 : List (LoopS (List (D251) × Bool × Unit)) := [⟨2, ⟨[(0, (.pv .str)), (4, (.ref (.slice Y251) 80 []))], [(80, (.data false (.slice Y251) (.own .z)))]⟩, fun κ => F181_R2 (fun y => κ.exit 0 (SSh.mk' ⟨[(4, (.ref (.slice Y251) 80 []))], [(80, (.data false (.slice Y251) (.own .z)))]⟩ y)) (fun y => κ.ret (SSh.mk' ⟨[(2, (.ref (.slice Y251) 176 [])), (3, (.pv .bool))], [(176, (.data false (.slice Y251) (.own .z)))]⟩ y)) (fun y => κ.ret (SSh.mk' ⟨[(2, (.ref (.slice Y251) 304 [])), (3, (.pv .bool))], [(304, (.data false (.slice Y251) (.own .z)))]⟩ y))⟩]
theorem L181_2 : RoundEq E181 L181 L181[0] (nthLoop (codeOf Tryz.f181) 0) := fun κ N x => by kernel_rfl
theorem C181_ok : QuietOk Tryz.prog 181 C181 := tQ E181 L181 [nthLoop (codeOf Tryz.f181) 0] Tryz.func181 ty_ok (.cons C197_ok .nil) (.cons L181[0] (by kernel_rfl) L181_2 .nil)
noncomputable def F196_R2 (e0_0 : List (D83) × Unit → Option (List (D83) × Bool × Unit)) (er_1 : Bool × List (D83) × Unit → Option (List (D83) × Bool × Unit)) (rec : List UInt8 × List (D83) × Unit → Option (List (D83) × Bool × Unit)) (x2 : List UInt8 × List (D83) × Unit) : Option (List (D83) × Bool × Unit) :=
 (cond (decide ((((List.length x2.1) : Nat) : Int) > (0 : Int)))
 (Option.bind (F197 x2.1) fun y4 =>
 (cond (!y4.2.2.1)
 (er_1 (false, [], ()))
 (gd (decide (((List.length x2.2.1) + (List.length [y4.1])) ≤ lim))
 (rec (y4.2.1, (x2.2.1 ++ [y4.1]), ())))))
 (e0_0 (x2.2.1, ())))
noncomputable def F196 (a0 : List UInt8) : Option (List (D83) × Bool × Unit) :=
 (iter (F196_R2
 (fun y6 =>
 (some (y6.1, (true, ()))))
 (fun y7 =>
 (some (y7.2.1, (y7.1, ()))))) fuel (a0, [], ()))
noncomputable def C196 : Fun := ⟨[(.ro .str)], [((.slice Y83), .z), (.bool, .z)], fun z => F196 z.1⟩
noncomputable def E196 : Env := ⟨27, tyTab tys, oneTab ones, fnTab [(197, C197)], false, [], [(2, [0, 4], []), (3, [0, 4], []), (6, [4, 5, 6], []), (8, [4], []), (100000, [4], []), (100001, [0, 4], []), (99999, [2, 3], [])], none, []⟩
noncomputable def L196 : List (LoopS (List (D83) × Bool × Unit)) := [⟨2, ⟨[(0, (.pv .str)), (4, (.ref (.slice Y83) 64 []))], [(64, (.data false (.slice Y83) (.own .z)))]⟩, fun κ => F196_R2 (fun y => κ.exit 0 (SSh.mk' ⟨[(4, (.ref (.slice Y83) 64 []))], [(64, (.data false (.slice Y83) (.own .z)))]⟩ y)) (fun y => κ.ret (SSh.mk' ⟨[(2, (.ref (.slice Y83) 160 [])), (3, (.pv .bool))], [(160, (.data false (.slice Y83) (.own .z)))]⟩ y))⟩]
theorem L196_2 : RoundEq E196 L196 L196[0] (nthLoop (codeOf Tryz.f196) 0) := fun κ N x => by kernel_rfl
theorem C196_ok : QuietOk Tryz.prog 196 C196 := tQ E196 L196 [nthLoop (codeOf Tryz.f196) 0] Tryz.func196 ty_ok (.cons C197_ok .nil) (.cons L196[0] (by kernel_rfl) L196_2 .nil)
end Go.V
