/- What functions of the program compute, printed by a program of ours. No condition. -/
import Derived.Test.YtafhmggfbojpdaaGreatDoorWSeen
namespace Go.V
open Go.Proofs
set_option maxRecDepth 100000
set_option linter.unusedVariables false
noncomputable def F140 (a0 : D74) (a1 : Int) : Option (Int × Unit) :=
 (cond (decide ((IntKind.wrap IntKind.i64 (a1 - (((List.length a0.2.2.1) : Nat) : Int))) < (0 : Int)))
 (some ((-(1 : Int)), ()))
 (some ((IntKind.wrap IntKind.i64 (a1 - (((List.length a0.2.2.1) : Nat) : Int))), ())))
noncomputable def C140 : Fun := ⟨[(.ro Y74), (.ro (.int .i64))], [((.int .i64), .z)], fun z => F140 z.1 z.2.1⟩
noncomputable def E140 : Env := ⟨13, tyTab tys, oneTab ones, fnTab [], false, [], [(4, [1], []), (99999, [4], [])], none, [], []⟩
noncomputable def L140 : List (LoopS (Int × Unit)) := []
theorem C140_ok : QuietOk Tryz.prog 140 C140 := tQ E140 L140 [] Tryz.func140 ty_ok .nil .nil
noncomputable def F170 (a0 : D94) (a1 : Int) : Option (Int × Unit) :=
 (Option.bind (F140 a0.2.2.1 a1) fun y0 =>
 (cond (decide (y0.1 < (0 : Int)))
 (some ((-(1 : Int)), ()))
 (some (y0.1, ()))))
noncomputable def C170 : Fun := ⟨[(.ro Y94), (.ro (.int .i64))], [((.int .i64), .z)], fun z => F170 z.1 z.2.1⟩
noncomputable def E170 : Env := ⟨12, tyTab tys, oneTab ones, fnTab [(140, C140)], false, [], [(4, [1], []), (99999, [4], [])], none, [], []⟩
noncomputable def L170 : List (LoopS (Int × Unit)) := []
theorem C170_ok : QuietOk Tryz.prog 170 C170 := tQ E170 L170 [] Tryz.func170 ty_ok (.cons C140_ok .nil) .nil
noncomputable def F137_R5 (e0_0 : Int × Unit → Option (Int × Unit)) (er_1 : Int × Unit → Option (Int × Unit)) (rec : List (D94) × Int × Int × Unit → Option (Int × Unit)) (x3 : List (D94) × Int × Int × Unit) : Option (Int × Unit) :=
 (cond (decide (x3.2.2.1 < (((List.length x3.1) : Nat) : Int)))
 (gd (decide ((0 : Int) ≤ x3.2.2.1))
 (Option.bind x3.1[(Int.toNat x3.2.2.1)]? fun y6 =>
 (Option.bind (F170 y6 x3.2.1) fun y7 =>
 (cond (decide (y7.1 < (0 : Int)))
 (er_1 ((-(1 : Int)), ()))
 (rec (x3.1, y7.1, (IntKind.wrap IntKind.i64 (x3.2.2.1 + (1 : Int))), ()))))))
 (e0_0 (x3.2.1, ())))
noncomputable def F137 (a0 : List (D94)) (a1 : Int) : Option (Int × Unit) :=
 (cond (decide ((IntKind.wrap IntKind.i64 (a1 - (((List.length a0) : Nat) : Int))) < (0 : Int)))
 (some ((-(1 : Int)), ()))
 (iter (F137_R5
 (fun y8 =>
 (some (y8.1, ())))
 (fun y9 =>
 (some (y9.1, ())))) fuel (a0, (IntKind.wrap IntKind.i64 (a1 - (((List.length a0) : Nat) : Int))), (0 : Int), ())))
noncomputable def C137 : Fun := ⟨[(.ro (.slice Y94)), (.ro (.int .i64))], [((.int .i64), .z)], fun z => F137 z.1 z.2.1⟩
noncomputable def E137 : Env := ⟨27, tyTab tys, oneTab ones, fnTab [(170, C170)], false, [], [(4, [0, 1], []), (5, [0, 1, 5], []), (6, [0, 1, 5], []), (7, [0, 1, 5], []), (10, [1], []), (100000, [1], []), (100001, [0, 1, 5], []), (99999, [4], [])], none, [], []⟩
noncomputable def L137 : List (LoopS (Int × Unit)) := [⟨5, ⟨[(0, (.pv (.slice Y94))), (1, (.pv (.int .i64))), (5, (.pv (.int .i64)))], []⟩, fun κ => F137_R5 (fun y => κ.exit 0 (SSh.mk' ⟨[(1, (.pv (.int .i64)))], []⟩ y)) (fun y => κ.ret (SSh.mk' ⟨[(4, (.pv (.int .i64)))], []⟩ y))⟩]
theorem L137_5 : RoundEq E137 L137 L137[0] (nthLoop (codeOf Tryz.f137) 0) := fun κ N x => by kernel_rfl
theorem C137_ok : QuietOk Tryz.prog 137 C137 := tQ E137 L137 [nthLoop (codeOf Tryz.f137) 0] Tryz.func137 ty_ok (.cons C170_ok .nil) (.cons L137[0] (by kernel_rfl) L137_5 .nil)
noncomputable def F102 (a0 : D58) (a1 : Int) : Option (Int × Unit) :=
 (Option.bind (F137 a0.2.1 a1) fun y0 =>
 (cond (decide (y0.1 < (0 : Int)))
 (some ((-(1 : Int)), ()))
 (some (y0.1, ()))))
noncomputable def C102 : Fun := ⟨[(.ro Y58), (.ro (.int .i64))], [((.int .i64), .z)], fun z => F102 z.1 z.2.1⟩
noncomputable def E102 : Env := ⟨12, tyTab tys, oneTab ones, fnTab [(137, C137)], false, [], [(4, [1], []), (99999, [4], [])], none, [], []⟩
noncomputable def L102 : List (LoopS (Int × Unit)) := []
theorem C102_ok : QuietOk Tryz.prog 102 C102 := tQ E102 L102 [] Tryz.func102 ty_ok (.cons C137_ok .nil) .nil
noncomputable def F71_R5 (e0_0 : Int × Unit → Option (Int × Unit)) (er_1 : Int × Unit → Option (Int × Unit)) (rec : List (D58) × Int × Int × Unit → Option (Int × Unit)) (x3 : List (D58) × Int × Int × Unit) : Option (Int × Unit) :=
 (cond (decide (x3.2.2.1 < (((List.length x3.1) : Nat) : Int)))
 (gd (decide ((0 : Int) ≤ x3.2.2.1))
 (Option.bind x3.1[(Int.toNat x3.2.2.1)]? fun y6 =>
 (Option.bind (F102 y6 x3.2.1) fun y7 =>
 (cond (decide (y7.1 < (0 : Int)))
 (er_1 ((-(1 : Int)), ()))
 (rec (x3.1, y7.1, (IntKind.wrap IntKind.i64 (x3.2.2.1 + (1 : Int))), ()))))))
 (e0_0 (x3.2.1, ())))
noncomputable def F71 (a0 : List (D58)) (a1 : Int) : Option (Int × Unit) :=
 (cond (decide ((IntKind.wrap IntKind.i64 (a1 - (((List.length a0) : Nat) : Int))) < (0 : Int)))
 (some ((-(1 : Int)), ()))
 (iter (F71_R5
 (fun y8 =>
 (some (y8.1, ())))
 (fun y9 =>
 (some (y9.1, ())))) fuel (a0, (IntKind.wrap IntKind.i64 (a1 - (((List.length a0) : Nat) : Int))), (0 : Int), ())))
noncomputable def C71 : Fun := ⟨[(.ro (.slice Y58)), (.ro (.int .i64))], [((.int .i64), .z)], fun z => F71 z.1 z.2.1⟩
noncomputable def E71 : Env := ⟨27, tyTab tys, oneTab ones, fnTab [(102, C102)], false, [], [(4, [0, 1], []), (5, [0, 1, 5], []), (6, [0, 1, 5], []), (7, [0, 1, 5], []), (10, [1], []), (100000, [1], []), (100001, [0, 1, 5], []), (99999, [4], [])], none, [], []⟩
noncomputable def L71 : List (LoopS (Int × Unit)) := [⟨5, ⟨[(0, (.pv (.slice Y58))), (1, (.pv (.int .i64))), (5, (.pv (.int .i64)))], []⟩, fun κ => F71_R5 (fun y => κ.exit 0 (SSh.mk' ⟨[(1, (.pv (.int .i64)))], []⟩ y)) (fun y => κ.ret (SSh.mk' ⟨[(4, (.pv (.int .i64)))], []⟩ y))⟩]
theorem L71_5 : RoundEq E71 L71 L71[0] (nthLoop (codeOf Tryz.f71) 0) := fun κ N x => by kernel_rfl
theorem C71_ok : QuietOk Tryz.prog 71 C71 := tQ E71 L71 [nthLoop (codeOf Tryz.f71) 0] Tryz.func71 ty_ok (.cons C102_ok .nil) (.cons L71[0] (by kernel_rfl) L71_5 .nil)
noncomputable def F171 (a0 : D209) (a1 : Int) : Option (Int × Unit) :=
 (cond (decide ((IntKind.wrap IntKind.i64 (a1 - (((List.length a0.1) : Nat) : Int))) < (0 : Int)))
 (some ((-(1 : Int)), ()))
 (some ((IntKind.wrap IntKind.i64 (a1 - (((List.length a0.1) : Nat) : Int))), ())))
noncomputable def C171 : Fun := ⟨[(.ro Y209), (.ro (.int .i64))], [((.int .i64), .z)], fun z => F171 z.1 z.2.1⟩
noncomputable def E171 : Env := ⟨13, tyTab tys, oneTab ones, fnTab [], false, [], [(4, [1], []), (99999, [4], [])], none, [], []⟩
noncomputable def L171 : List (LoopS (Int × Unit)) := []
theorem C171_ok : QuietOk Tryz.prog 171 C171 := tQ E171 L171 [] Tryz.func171 ty_ok .nil .nil
noncomputable def F138_R5 (e0_0 : Int × Unit → Option (Int × Unit)) (er_1 : Int × Unit → Option (Int × Unit)) (rec : List (D209) × Int × Int × Unit → Option (Int × Unit)) (x3 : List (D209) × Int × Int × Unit) : Option (Int × Unit) :=
 (cond (decide (x3.2.2.1 < (((List.length x3.1) : Nat) : Int)))
 (gd (decide ((0 : Int) ≤ x3.2.2.1))
 (Option.bind x3.1[(Int.toNat x3.2.2.1)]? fun y6 =>
 (Option.bind (F171 y6 x3.2.1) fun y7 =>
 (cond (decide (y7.1 < (0 : Int)))
 (er_1 ((-(1 : Int)), ()))
 (rec (x3.1, y7.1, (IntKind.wrap IntKind.i64 (x3.2.2.1 + (1 : Int))), ()))))))
 (e0_0 (x3.2.1, ())))
noncomputable def F138 (a0 : List (D209)) (a1 : Int) : Option (Int × Unit) :=
 (cond (decide ((IntKind.wrap IntKind.i64 (a1 - (((List.length a0) : Nat) : Int))) < (0 : Int)))
 (some ((-(1 : Int)), ()))
 (iter (F138_R5
 (fun y8 =>
 (some (y8.1, ())))
 (fun y9 =>
 (some (y9.1, ())))) fuel (a0, (IntKind.wrap IntKind.i64 (a1 - (((List.length a0) : Nat) : Int))), (0 : Int), ())))
noncomputable def C138 : Fun := ⟨[(.ro (.slice Y209)), (.ro (.int .i64))], [((.int .i64), .z)], fun z => F138 z.1 z.2.1⟩
noncomputable def E138 : Env := ⟨27, tyTab tys, oneTab ones, fnTab [(171, C171)], false, [], [(4, [0, 1], []), (5, [0, 1, 5], []), (6, [0, 1, 5], []), (7, [0, 1, 5], []), (10, [1], []), (100000, [1], []), (100001, [0, 1, 5], []), (99999, [4], [])], none, [], []⟩
noncomputable def L138 : List (LoopS (Int × Unit)) := [⟨5, ⟨[(0, (.pv (.slice Y209))), (1, (.pv (.int .i64))), (5, (.pv (.int .i64)))], []⟩, fun κ => F138_R5 (fun y => κ.exit 0 (SSh.mk' ⟨[(1, (.pv (.int .i64)))], []⟩ y)) (fun y => κ.ret (SSh.mk' ⟨[(4, (.pv (.int .i64)))], []⟩ y))⟩]
theorem L138_5 : RoundEq E138 L138 L138[0] (nthLoop (codeOf Tryz.f138) 0) := fun κ N x => by kernel_rfl
theorem C138_ok : QuietOk Tryz.prog 138 C138 := tQ E138 L138 [nthLoop (codeOf Tryz.f138) 0] Tryz.func138 ty_ok (.cons C171_ok .nil) (.cons L138[0] (by kernel_rfl) L138_5 .nil)
noncomputable def F103 (a0 : D158) (a1 : Int) : Option (Int × Unit) :=
 (cond (decide ((IntKind.wrap IntKind.i64 (a1 - (((List.length a0.1) : Nat) : Int))) < (0 : Int)))
 (some ((-(1 : Int)), ()))
 (Option.bind (F138 a0.2.1 (IntKind.wrap IntKind.i64 (a1 - (((List.length a0.1) : Nat) : Int)))) fun y1 =>
 (cond (decide (y1.1 < (0 : Int)))
 (some ((-(1 : Int)), ()))
 (some (y1.1, ())))))
noncomputable def C103 : Fun := ⟨[(.ro Y158), (.ro (.int .i64))], [((.int .i64), .z)], fun z => F103 z.1 z.2.1⟩
noncomputable def E103 : Env := ⟨19, tyTab tys, oneTab ones, fnTab [(138, C138)], false, [], [(4, [1, 2], []), (7, [1], []), (99999, [4], [])], none, [], []⟩
noncomputable def L103 : List (LoopS (Int × Unit)) := []
theorem C103_ok : QuietOk Tryz.prog 103 C103 := tQ E103 L103 [] Tryz.func103 ty_ok (.cons C138_ok .nil) .nil
noncomputable def F72_R5 (e0_0 : Int × Unit → Option (Int × Unit)) (er_1 : Int × Unit → Option (Int × Unit)) (rec : List (D158) × Int × Int × Unit → Option (Int × Unit)) (x3 : List (D158) × Int × Int × Unit) : Option (Int × Unit) :=
 (cond (decide (x3.2.2.1 < (((List.length x3.1) : Nat) : Int)))
 (gd (decide ((0 : Int) ≤ x3.2.2.1))
 (Option.bind x3.1[(Int.toNat x3.2.2.1)]? fun y6 =>
 (Option.bind (F103 y6 x3.2.1) fun y7 =>
 (cond (decide (y7.1 < (0 : Int)))
 (er_1 ((-(1 : Int)), ()))
 (rec (x3.1, y7.1, (IntKind.wrap IntKind.i64 (x3.2.2.1 + (1 : Int))), ()))))))
 (e0_0 (x3.2.1, ())))
noncomputable def F72 (a0 : List (D158)) (a1 : Int) : Option (Int × Unit) :=
 (cond (decide ((IntKind.wrap IntKind.i64 (a1 - (((List.length a0) : Nat) : Int))) < (0 : Int)))
 (some ((-(1 : Int)), ()))
 (iter (F72_R5
 (fun y8 =>
 (some (y8.1, ())))
 (fun y9 =>
 (some (y9.1, ())))) fuel (a0, (IntKind.wrap IntKind.i64 (a1 - (((List.length a0) : Nat) : Int))), (0 : Int), ())))
noncomputable def C72 : Fun := ⟨[(.ro (.slice Y158)), (.ro (.int .i64))], [((.int .i64), .z)], fun z => F72 z.1 z.2.1⟩
noncomputable def E72 : Env := ⟨27, tyTab tys, oneTab ones, fnTab [(103, C103)], false, [], [(4, [0, 1], []), (5, [0, 1, 5], []), (6, [0, 1, 5], []), (7, [0, 1, 5], []), (10, [1], []), (100000, [1], []), (100001, [0, 1, 5], []), (99999, [4], [])], none, [], []⟩
noncomputable def L72 : List (LoopS (Int × Unit)) := [⟨5, ⟨[(0, (.pv (.slice Y158))), (1, (.pv (.int .i64))), (5, (.pv (.int .i64)))], []⟩, fun κ => F72_R5 (fun y => κ.exit 0 (SSh.mk' ⟨[(1, (.pv (.int .i64)))], []⟩ y)) (fun y => κ.ret (SSh.mk' ⟨[(4, (.pv (.int .i64)))], []⟩ y))⟩]
theorem L72_5 : RoundEq E72 L72 L72[0] (nthLoop (codeOf Tryz.f72) 0) := fun κ N x => by kernel_rfl
theorem C72_ok : QuietOk Tryz.prog 72 C72 := tQ E72 L72 [nthLoop (codeOf Tryz.f72) 0] Tryz.func72 ty_ok (.cons C103_ok .nil) (.cons L72[0] (by kernel_rfl) L72_5 .nil)
noncomputable def F41 (a0 : D55) (a1 : Int) : Option (Int × Unit) :=
 (cond (decide ((IntKind.wrap IntKind.i64 (a1 - (((List.length a0.1) : Nat) : Int))) < (0 : Int)))
 (some ((-(1 : Int)), ()))
 (Option.bind (F71 a0.2.1 (IntKind.wrap IntKind.i64 (a1 - (((List.length a0.1) : Nat) : Int)))) fun y1 =>
 (cond (decide (y1.1 < (0 : Int)))
 (some ((-(1 : Int)), ()))
 (Option.bind (F72 a0.2.2.1 y1.1) fun y3 =>
 (cond (decide (y3.1 < (0 : Int)))
 (some ((-(1 : Int)), ()))
 (some (y3.1, ())))))))
noncomputable def C41 : Fun := ⟨[(.ro Y55), (.ro (.int .i64))], [((.int .i64), .z)], fun z => F41 z.1 z.2.1⟩
noncomputable def E41 : Env := ⟨25, tyTab tys, oneTab ones, fnTab [(71, C71), (72, C72)], false, [], [(4, [1, 2], []), (7, [1, 2], []), (10, [1], []), (99999, [4], [])], none, [], []⟩
noncomputable def L41 : List (LoopS (Int × Unit)) := []
theorem C41_ok : QuietOk Tryz.prog 41 C41 := tQ E41 L41 [] Tryz.func41 ty_ok (.cons C71_ok (.cons C72_ok .nil)) .nil
noncomputable def F19_R5 (e0_0 : Int × Unit → Option (Int × Unit)) (er_1 : Int × Unit → Option (Int × Unit)) (rec : List (D55) × Int × Int × Unit → Option (Int × Unit)) (x3 : List (D55) × Int × Int × Unit) : Option (Int × Unit) :=
 (cond (decide (x3.2.2.1 < (((List.length x3.1) : Nat) : Int)))
 (gd (decide ((0 : Int) ≤ x3.2.2.1))
 (Option.bind x3.1[(Int.toNat x3.2.2.1)]? fun y6 =>
 (Option.bind (F41 y6 x3.2.1) fun y7 =>
 (cond (decide (y7.1 < (0 : Int)))
 (er_1 ((-(1 : Int)), ()))
 (rec (x3.1, y7.1, (IntKind.wrap IntKind.i64 (x3.2.2.1 + (1 : Int))), ()))))))
 (e0_0 (x3.2.1, ())))
noncomputable def F19 (a0 : List (D55)) (a1 : Int) : Option (Int × Unit) :=
 (cond (decide ((IntKind.wrap IntKind.i64 (a1 - (((List.length a0) : Nat) : Int))) < (0 : Int)))
 (some ((-(1 : Int)), ()))
 (iter (F19_R5
 (fun y8 =>
 (some (y8.1, ())))
 (fun y9 =>
 (some (y9.1, ())))) fuel (a0, (IntKind.wrap IntKind.i64 (a1 - (((List.length a0) : Nat) : Int))), (0 : Int), ())))
noncomputable def C19 : Fun := ⟨[(.ro (.slice Y55)), (.ro (.int .i64))], [((.int .i64), .z)], fun z => F19 z.1 z.2.1⟩
noncomputable def E19 : Env := ⟨27, tyTab tys, oneTab ones, fnTab [(41, C41)], false, [], [(4, [0, 1], []), (5, [0, 1, 5], []), (6, [0, 1, 5], []), (7, [0, 1, 5], []), (10, [1], []), (100000, [1], []), (100001, [0, 1, 5], []), (99999, [4], [])], none, [], []⟩
noncomputable def L19 : List (LoopS (Int × Unit)) := [⟨5, ⟨[(0, (.pv (.slice Y55))), (1, (.pv (.int .i64))), (5, (.pv (.int .i64)))], []⟩, fun κ => F19_R5 (fun y => κ.exit 0 (SSh.mk' ⟨[(1, (.pv (.int .i64)))], []⟩ y)) (fun y => κ.ret (SSh.mk' ⟨[(4, (.pv (.int .i64)))], []⟩ y))⟩]
theorem L19_5 : RoundEq E19 L19 L19[0] (nthLoop (codeOf Tryz.f19) 0) := fun κ N x => by kernel_rfl
theorem C19_ok : QuietOk Tryz.prog 19 C19 := tQ E19 L19 [nthLoop (codeOf Tryz.f19) 0] Tryz.func19 ty_ok (.cons C41_ok .nil) (.cons L19[0] (by kernel_rfl) L19_5 .nil)
noncomputable def F221 (a0 : D222) (a1 : Int) : Option (Int × Unit) :=
 (cond (decide ((IntKind.wrap IntKind.i64 (a1 - (((List.length a0.2.1) : Nat) : Int))) < (0 : Int)))
 (some ((-(1 : Int)), ()))
 (Option.bind (F140 a0.2.2.1 (IntKind.wrap IntKind.i64 (a1 - (((List.length a0.2.1) : Nat) : Int)))) fun y1 =>
 (cond (decide (y1.1 < (0 : Int)))
 (some ((-(1 : Int)), ()))
 (some (y1.1, ())))))
noncomputable def C221 : Fun := ⟨[(.ro Y222), (.ro (.int .i64))], [((.int .i64), .z)], fun z => F221 z.1 z.2.1⟩
noncomputable def E221 : Env := ⟨19, tyTab tys, oneTab ones, fnTab [(140, C140)], false, [], [(4, [1, 2], []), (7, [1], []), (99999, [4], [])], none, [], []⟩
noncomputable def L221 : List (LoopS (Int × Unit)) := []
theorem C221_ok : QuietOk Tryz.prog 221 C221 := tQ E221 L221 [] Tryz.func221 ty_ok (.cons C140_ok .nil) .nil
noncomputable def F210_R5 (e0_0 : Int × Unit → Option (Int × Unit)) (er_1 : Int × Unit → Option (Int × Unit)) (rec : List (D222) × Int × Int × Unit → Option (Int × Unit)) (x3 : List (D222) × Int × Int × Unit) : Option (Int × Unit) :=
 (cond (decide (x3.2.2.1 < (((List.length x3.1) : Nat) : Int)))
 (gd (decide ((0 : Int) ≤ x3.2.2.1))
 (Option.bind x3.1[(Int.toNat x3.2.2.1)]? fun y6 =>
 (Option.bind (F221 y6 x3.2.1) fun y7 =>
 (cond (decide (y7.1 < (0 : Int)))
 (er_1 ((-(1 : Int)), ()))
 (rec (x3.1, y7.1, (IntKind.wrap IntKind.i64 (x3.2.2.1 + (1 : Int))), ()))))))
 (e0_0 (x3.2.1, ())))
noncomputable def F210 (a0 : List (D222)) (a1 : Int) : Option (Int × Unit) :=
 (cond (decide ((IntKind.wrap IntKind.i64 (a1 - (((List.length a0) : Nat) : Int))) < (0 : Int)))
 (some ((-(1 : Int)), ()))
 (iter (F210_R5
 (fun y8 =>
 (some (y8.1, ())))
 (fun y9 =>
 (some (y9.1, ())))) fuel (a0, (IntKind.wrap IntKind.i64 (a1 - (((List.length a0) : Nat) : Int))), (0 : Int), ())))
noncomputable def C210 : Fun := ⟨[(.ro (.slice Y222)), (.ro (.int .i64))], [((.int .i64), .z)], fun z => F210 z.1 z.2.1⟩
noncomputable def E210 : Env := ⟨27, tyTab tys, oneTab ones, fnTab [(221, C221)], false, [], [(4, [0, 1], []), (5, [0, 1, 5], []), (6, [0, 1, 5], []), (7, [0, 1, 5], []), (10, [1], []), (100000, [1], []), (100001, [0, 1, 5], []), (99999, [4], [])], none, [], []⟩
noncomputable def L210 : List (LoopS (Int × Unit)) := [⟨5, ⟨[(0, (.pv (.slice Y222))), (1, (.pv (.int .i64))), (5, (.pv (.int .i64)))], []⟩, fun κ => F210_R5 (fun y => κ.exit 0 (SSh.mk' ⟨[(1, (.pv (.int .i64)))], []⟩ y)) (fun y => κ.ret (SSh.mk' ⟨[(4, (.pv (.int .i64)))], []⟩ y))⟩]
theorem L210_5 : RoundEq E210 L210 L210[0] (nthLoop (codeOf Tryz.f210) 0) := fun κ N x => by kernel_rfl
theorem C210_ok : QuietOk Tryz.prog 210 C210 := tQ E210 L210 [nthLoop (codeOf Tryz.f210) 0] Tryz.func210 ty_ok (.cons C221_ok .nil) (.cons L210[0] (by kernel_rfl) L210_5 .nil)
noncomputable def F193 (a0 : D213) (a1 : Int) : Option (Int × Unit) :=
 (Option.bind (F210 a0.1 a1) fun y0 =>
 (cond (decide (y0.1 < (0 : Int)))
 (some ((-(1 : Int)), ()))
 (some (y0.1, ()))))
noncomputable def C193 : Fun := ⟨[(.ro Y213), (.ro (.int .i64))], [((.int .i64), .z)], fun z => F193 z.1 z.2.1⟩
noncomputable def E193 : Env := ⟨12, tyTab tys, oneTab ones, fnTab [(210, C210)], false, [], [(4, [1], []), (99999, [4], [])], none, [], []⟩
noncomputable def L193 : List (LoopS (Int × Unit)) := []
theorem C193_ok : QuietOk Tryz.prog 193 C193 := tQ E193 L193 [] Tryz.func193 ty_ok (.cons C210_ok .nil) .nil
noncomputable def F172_R5 (e0_0 : Int × Unit → Option (Int × Unit)) (er_1 : Int × Unit → Option (Int × Unit)) (rec : List (D213) × Int × Int × Unit → Option (Int × Unit)) (x3 : List (D213) × Int × Int × Unit) : Option (Int × Unit) :=
 (cond (decide (x3.2.2.1 < (((List.length x3.1) : Nat) : Int)))
 (gd (decide ((0 : Int) ≤ x3.2.2.1))
 (Option.bind x3.1[(Int.toNat x3.2.2.1)]? fun y6 =>
 (Option.bind (F193 y6 x3.2.1) fun y7 =>
 (cond (decide (y7.1 < (0 : Int)))
 (er_1 ((-(1 : Int)), ()))
 (rec (x3.1, y7.1, (IntKind.wrap IntKind.i64 (x3.2.2.1 + (1 : Int))), ()))))))
 (e0_0 (x3.2.1, ())))
noncomputable def F172 (a0 : List (D213)) (a1 : Int) : Option (Int × Unit) :=
 (cond (decide ((IntKind.wrap IntKind.i64 (a1 - (((List.length a0) : Nat) : Int))) < (0 : Int)))
 (some ((-(1 : Int)), ()))
 (iter (F172_R5
 (fun y8 =>
 (some (y8.1, ())))
 (fun y9 =>
 (some (y9.1, ())))) fuel (a0, (IntKind.wrap IntKind.i64 (a1 - (((List.length a0) : Nat) : Int))), (0 : Int), ())))
noncomputable def C172 : Fun := ⟨[(.ro (.slice Y213)), (.ro (.int .i64))], [((.int .i64), .z)], fun z => F172 z.1 z.2.1⟩
noncomputable def E172 : Env := ⟨27, tyTab tys, oneTab ones, fnTab [(193, C193)], false, [], [(4, [0, 1], []), (5, [0, 1, 5], []), (6, [0, 1, 5], []), (7, [0, 1, 5], []), (10, [1], []), (100000, [1], []), (100001, [0, 1, 5], []), (99999, [4], [])], none, [], []⟩
noncomputable def L172 : List (LoopS (Int × Unit)) := [⟨5, ⟨[(0, (.pv (.slice Y213))), (1, (.pv (.int .i64))), (5, (.pv (.int .i64)))], []⟩, fun κ => F172_R5 (fun y => κ.exit 0 (SSh.mk' ⟨[(1, (.pv (.int .i64)))], []⟩ y)) (fun y => κ.ret (SSh.mk' ⟨[(4, (.pv (.int .i64)))], []⟩ y))⟩]
theorem L172_5 : RoundEq E172 L172 L172[0] (nthLoop (codeOf Tryz.f172) 0) := fun κ N x => by kernel_rfl
theorem C172_ok : QuietOk Tryz.prog 172 C172 := tQ E172 L172 [nthLoop (codeOf Tryz.f172) 0] Tryz.func172 ty_ok (.cons C193_ok .nil) (.cons L172[0] (by kernel_rfl) L172_5 .nil)
noncomputable def F139 (a0 : D137) (a1 : Int) : Option (Int × Unit) :=
 (Option.bind (F172 a0.1 a1) fun y0 =>
 (cond (decide (y0.1 < (0 : Int)))
 (some ((-(1 : Int)), ()))
 (some (y0.1, ()))))
noncomputable def C139 : Fun := ⟨[(.ro Y137), (.ro (.int .i64))], [((.int .i64), .z)], fun z => F139 z.1 z.2.1⟩
noncomputable def E139 : Env := ⟨12, tyTab tys, oneTab ones, fnTab [(172, C172)], false, [], [(4, [1], []), (99999, [4], [])], none, [], []⟩
noncomputable def L139 : List (LoopS (Int × Unit)) := []
theorem C139_ok : QuietOk Tryz.prog 139 C139 := tQ E139 L139 [] Tryz.func139 ty_ok (.cons C172_ok .nil) .nil
noncomputable def F104 (a0 : D139) (a1 : Int) : Option (Int × Unit) :=
 (cond (decide ((IntKind.wrap IntKind.i64 (a1 - (((List.length a0.1) : Nat) : Int))) < (0 : Int)))
 (some ((-(1 : Int)), ()))
 (Option.bind (F139 a0.2.1 (IntKind.wrap IntKind.i64 (a1 - (((List.length a0.1) : Nat) : Int)))) fun y1 =>
 (cond (decide (y1.1 < (0 : Int)))
 (some ((-(1 : Int)), ()))
 (some (y1.1, ())))))
noncomputable def C104 : Fun := ⟨[(.ro Y139), (.ro (.int .i64))], [((.int .i64), .z)], fun z => F104 z.1 z.2.1⟩
noncomputable def E104 : Env := ⟨19, tyTab tys, oneTab ones, fnTab [(139, C139)], false, [], [(4, [1, 2], []), (7, [1], []), (99999, [4], [])], none, [], []⟩
noncomputable def L104 : List (LoopS (Int × Unit)) := []
theorem C104_ok : QuietOk Tryz.prog 104 C104 := tQ E104 L104 [] Tryz.func104 ty_ok (.cons C139_ok .nil) .nil
noncomputable def F73_R5 (e0_0 : Int × Unit → Option (Int × Unit)) (er_1 : Int × Unit → Option (Int × Unit)) (rec : List (D139) × Int × Int × Unit → Option (Int × Unit)) (x3 : List (D139) × Int × Int × Unit) : Option (Int × Unit) :=
 (cond (decide (x3.2.2.1 < (((List.length x3.1) : Nat) : Int)))
 (gd (decide ((0 : Int) ≤ x3.2.2.1))
 (Option.bind x3.1[(Int.toNat x3.2.2.1)]? fun y6 =>
 (Option.bind (F104 y6 x3.2.1) fun y7 =>
 (cond (decide (y7.1 < (0 : Int)))
 (er_1 ((-(1 : Int)), ()))
 (rec (x3.1, y7.1, (IntKind.wrap IntKind.i64 (x3.2.2.1 + (1 : Int))), ()))))))
 (e0_0 (x3.2.1, ())))
noncomputable def F73 (a0 : List (D139)) (a1 : Int) : Option (Int × Unit) :=
 (cond (decide ((IntKind.wrap IntKind.i64 (a1 - (((List.length a0) : Nat) : Int))) < (0 : Int)))
 (some ((-(1 : Int)), ()))
 (iter (F73_R5
 (fun y8 =>
 (some (y8.1, ())))
 (fun y9 =>
 (some (y9.1, ())))) fuel (a0, (IntKind.wrap IntKind.i64 (a1 - (((List.length a0) : Nat) : Int))), (0 : Int), ())))
noncomputable def C73 : Fun := ⟨[(.ro (.slice Y139)), (.ro (.int .i64))], [((.int .i64), .z)], fun z => F73 z.1 z.2.1⟩
noncomputable def E73 : Env := ⟨27, tyTab tys, oneTab ones, fnTab [(104, C104)], false, [], [(4, [0, 1], []), (5, [0, 1, 5], []), (6, [0, 1, 5], []), (7, [0, 1, 5], []), (10, [1], []), (100000, [1], []), (100001, [0, 1, 5], []), (99999, [4], [])], none, [], []⟩
noncomputable def L73 : List (LoopS (Int × Unit)) := [⟨5, ⟨[(0, (.pv (.slice Y139))), (1, (.pv (.int .i64))), (5, (.pv (.int .i64)))], []⟩, fun κ => F73_R5 (fun y => κ.exit 0 (SSh.mk' ⟨[(1, (.pv (.int .i64)))], []⟩ y)) (fun y => κ.ret (SSh.mk' ⟨[(4, (.pv (.int .i64)))], []⟩ y))⟩]
theorem L73_5 : RoundEq E73 L73 L73[0] (nthLoop (codeOf Tryz.f73) 0) := fun κ N x => by kernel_rfl
theorem C73_ok : QuietOk Tryz.prog 73 C73 := tQ E73 L73 [nthLoop (codeOf Tryz.f73) 0] Tryz.func73 ty_ok (.cons C104_ok .nil) (.cons L73[0] (by kernel_rfl) L73_5 .nil)
noncomputable def F105 (a0 : D101) (a1 : Int) : Option (Int × Unit) :=
 (cond (decide ((IntKind.wrap IntKind.i64 (a1 - (((List.length a0.1) : Nat) : Int))) < (0 : Int)))
 (some ((-(1 : Int)), ()))
 (Option.bind (F140 a0.2.2.2.1 (IntKind.wrap IntKind.i64 (a1 - (((List.length a0.1) : Nat) : Int)))) fun y1 =>
 (cond (decide (y1.1 < (0 : Int)))
 (some ((-(1 : Int)), ()))
 (some (y1.1, ())))))
noncomputable def C105 : Fun := ⟨[(.ro Y101), (.ro (.int .i64))], [((.int .i64), .z)], fun z => F105 z.1 z.2.1⟩
noncomputable def E105 : Env := ⟨19, tyTab tys, oneTab ones, fnTab [(140, C140)], false, [], [(4, [1, 2], []), (7, [1], []), (99999, [4], [])], none, [], []⟩
noncomputable def L105 : List (LoopS (Int × Unit)) := []
theorem C105_ok : QuietOk Tryz.prog 105 C105 := tQ E105 L105 [] Tryz.func105 ty_ok (.cons C140_ok .nil) .nil
noncomputable def F74_R5 (e0_0 : Int × Unit → Option (Int × Unit)) (er_1 : Int × Unit → Option (Int × Unit)) (rec : List (D101) × Int × Int × Unit → Option (Int × Unit)) (x3 : List (D101) × Int × Int × Unit) : Option (Int × Unit) :=
 (cond (decide (x3.2.2.1 < (((List.length x3.1) : Nat) : Int)))
 (gd (decide ((0 : Int) ≤ x3.2.2.1))
 (Option.bind x3.1[(Int.toNat x3.2.2.1)]? fun y6 =>
 (Option.bind (F105 y6 x3.2.1) fun y7 =>
 (cond (decide (y7.1 < (0 : Int)))
 (er_1 ((-(1 : Int)), ()))
 (rec (x3.1, y7.1, (IntKind.wrap IntKind.i64 (x3.2.2.1 + (1 : Int))), ()))))))
 (e0_0 (x3.2.1, ())))
noncomputable def F74 (a0 : List (D101)) (a1 : Int) : Option (Int × Unit) :=
 (cond (decide ((IntKind.wrap IntKind.i64 (a1 - (((List.length a0) : Nat) : Int))) < (0 : Int)))
 (some ((-(1 : Int)), ()))
 (iter (F74_R5
 (fun y8 =>
 (some (y8.1, ())))
 (fun y9 =>
 (some (y9.1, ())))) fuel (a0, (IntKind.wrap IntKind.i64 (a1 - (((List.length a0) : Nat) : Int))), (0 : Int), ())))
noncomputable def C74 : Fun := ⟨[(.ro (.slice Y101)), (.ro (.int .i64))], [((.int .i64), .z)], fun z => F74 z.1 z.2.1⟩
noncomputable def E74 : Env := ⟨27, tyTab tys, oneTab ones, fnTab [(105, C105)], false, [], [(4, [0, 1], []), (5, [0, 1, 5], []), (6, [0, 1, 5], []), (7, [0, 1, 5], []), (10, [1], []), (100000, [1], []), (100001, [0, 1, 5], []), (99999, [4], [])], none, [], []⟩
noncomputable def L74 : List (LoopS (Int × Unit)) := [⟨5, ⟨[(0, (.pv (.slice Y101))), (1, (.pv (.int .i64))), (5, (.pv (.int .i64)))], []⟩, fun κ => F74_R5 (fun y => κ.exit 0 (SSh.mk' ⟨[(1, (.pv (.int .i64)))], []⟩ y)) (fun y => κ.ret (SSh.mk' ⟨[(4, (.pv (.int .i64)))], []⟩ y))⟩]
theorem L74_5 : RoundEq E74 L74 L74[0] (nthLoop (codeOf Tryz.f74) 0) := fun κ N x => by kernel_rfl
theorem C74_ok : QuietOk Tryz.prog 74 C74 := tQ E74 L74 [nthLoop (codeOf Tryz.f74) 0] Tryz.func74 ty_ok (.cons C105_ok .nil) (.cons L74[0] (by kernel_rfl) L74_5 .nil)
noncomputable def F42 (a0 : D85) (a1 : Int) : Option (Int × Unit) :=
 (Option.bind (F73 a0.2.2.1 a1) fun y0 =>
 (cond (decide (y0.1 < (0 : Int)))
 (some ((-(1 : Int)), ()))
 (Option.bind (F74 a0.2.2.2.1 y0.1) fun y2 =>
 (cond (decide (y2.1 < (0 : Int)))
 (some ((-(1 : Int)), ()))
 (some (y2.1, ()))))))
noncomputable def C42 : Fun := ⟨[(.ro Y85), (.ro (.int .i64))], [((.int .i64), .z)], fun z => F42 z.1 z.2.1⟩
noncomputable def E42 : Env := ⟨18, tyTab tys, oneTab ones, fnTab [(73, C73), (74, C74)], false, [], [(4, [1, 2], []), (7, [1], []), (99999, [4], [])], none, [], []⟩
noncomputable def L42 : List (LoopS (Int × Unit)) := []
theorem C42_ok : QuietOk Tryz.prog 42 C42 := tQ E42 L42 [] Tryz.func42 ty_ok (.cons C73_ok (.cons C74_ok .nil)) .nil
noncomputable def F20_R5 (e0_0 : Int × Unit → Option (Int × Unit)) (er_1 : Int × Unit → Option (Int × Unit)) (rec : List (D85) × Int × Int × Unit → Option (Int × Unit)) (x3 : List (D85) × Int × Int × Unit) : Option (Int × Unit) :=
 (cond (decide (x3.2.2.1 < (((List.length x3.1) : Nat) : Int)))
 (gd (decide ((0 : Int) ≤ x3.2.2.1))
 (Option.bind x3.1[(Int.toNat x3.2.2.1)]? fun y6 =>
 (Option.bind (F42 y6 x3.2.1) fun y7 =>
 (cond (decide (y7.1 < (0 : Int)))
 (er_1 ((-(1 : Int)), ()))
 (rec (x3.1, y7.1, (IntKind.wrap IntKind.i64 (x3.2.2.1 + (1 : Int))), ()))))))
 (e0_0 (x3.2.1, ())))
noncomputable def F20 (a0 : List (D85)) (a1 : Int) : Option (Int × Unit) :=
 (cond (decide ((IntKind.wrap IntKind.i64 (a1 - (((List.length a0) : Nat) : Int))) < (0 : Int)))
 (some ((-(1 : Int)), ()))
 (iter (F20_R5
 (fun y8 =>
 (some (y8.1, ())))
 (fun y9 =>
 (some (y9.1, ())))) fuel (a0, (IntKind.wrap IntKind.i64 (a1 - (((List.length a0) : Nat) : Int))), (0 : Int), ())))
noncomputable def C20 : Fun := ⟨[(.ro (.slice Y85)), (.ro (.int .i64))], [((.int .i64), .z)], fun z => F20 z.1 z.2.1⟩
noncomputable def E20 : Env := ⟨27, tyTab tys, oneTab ones, fnTab [(42, C42)], false, [], [(4, [0, 1], []), (5, [0, 1, 5], []), (6, [0, 1, 5], []), (7, [0, 1, 5], []), (10, [1], []), (100000, [1], []), (100001, [0, 1, 5], []), (99999, [4], [])], none, [], []⟩
noncomputable def L20 : List (LoopS (Int × Unit)) := [⟨5, ⟨[(0, (.pv (.slice Y85))), (1, (.pv (.int .i64))), (5, (.pv (.int .i64)))], []⟩, fun κ => F20_R5 (fun y => κ.exit 0 (SSh.mk' ⟨[(1, (.pv (.int .i64)))], []⟩ y)) (fun y => κ.ret (SSh.mk' ⟨[(4, (.pv (.int .i64)))], []⟩ y))⟩]
theorem L20_5 : RoundEq E20 L20 L20[0] (nthLoop (codeOf Tryz.f20) 0) := fun κ N x => by kernel_rfl
theorem C20_ok : QuietOk Tryz.prog 20 C20 := tQ E20 L20 [nthLoop (codeOf Tryz.f20) 0] Tryz.func20 ty_ok (.cons C42_ok .nil) (.cons L20[0] (by kernel_rfl) L20_5 .nil)
noncomputable def F106 (a0 : D162) (a1 : Int) : Option (Int × Unit) :=
 (Option.bind (F105 a0.1 a1) fun y0 =>
 (cond (decide (y0.1 < (0 : Int)))
 (some ((-(1 : Int)), ()))
 (Option.bind (F140 a0.2.1 y0.1) fun y2 =>
 (cond (decide (y2.1 < (0 : Int)))
 (some ((-(1 : Int)), ()))
 (some (y2.1, ()))))))
noncomputable def C106 : Fun := ⟨[(.ro Y162), (.ro (.int .i64))], [((.int .i64), .z)], fun z => F106 z.1 z.2.1⟩
noncomputable def E106 : Env := ⟨18, tyTab tys, oneTab ones, fnTab [(105, C105), (140, C140)], false, [], [(4, [1, 2], []), (7, [1], []), (99999, [4], [])], none, [], []⟩
noncomputable def L106 : List (LoopS (Int × Unit)) := []
theorem C106_ok : QuietOk Tryz.prog 106 C106 := tQ E106 L106 [] Tryz.func106 ty_ok (.cons C105_ok (.cons C140_ok .nil)) .nil
noncomputable def F75_R5 (e0_0 : Int × Unit → Option (Int × Unit)) (er_1 : Int × Unit → Option (Int × Unit)) (rec : List (D162) × Int × Int × Unit → Option (Int × Unit)) (x3 : List (D162) × Int × Int × Unit) : Option (Int × Unit) :=
 (cond (decide (x3.2.2.1 < (((List.length x3.1) : Nat) : Int)))
 (gd (decide ((0 : Int) ≤ x3.2.2.1))
 (Option.bind x3.1[(Int.toNat x3.2.2.1)]? fun y6 =>
 (Option.bind (F106 y6 x3.2.1) fun y7 =>
 (cond (decide (y7.1 < (0 : Int)))
 (er_1 ((-(1 : Int)), ()))
 (rec (x3.1, y7.1, (IntKind.wrap IntKind.i64 (x3.2.2.1 + (1 : Int))), ()))))))
 (e0_0 (x3.2.1, ())))
noncomputable def F75 (a0 : List (D162)) (a1 : Int) : Option (Int × Unit) :=
 (cond (decide ((IntKind.wrap IntKind.i64 (a1 - (((List.length a0) : Nat) : Int))) < (0 : Int)))
 (some ((-(1 : Int)), ()))
 (iter (F75_R5
 (fun y8 =>
 (some (y8.1, ())))
 (fun y9 =>
 (some (y9.1, ())))) fuel (a0, (IntKind.wrap IntKind.i64 (a1 - (((List.length a0) : Nat) : Int))), (0 : Int), ())))
noncomputable def C75 : Fun := ⟨[(.ro (.slice Y162)), (.ro (.int .i64))], [((.int .i64), .z)], fun z => F75 z.1 z.2.1⟩
noncomputable def E75 : Env := ⟨27, tyTab tys, oneTab ones, fnTab [(106, C106)], false, [], [(4, [0, 1], []), (5, [0, 1, 5], []), (6, [0, 1, 5], []), (7, [0, 1, 5], []), (10, [1], []), (100000, [1], []), (100001, [0, 1, 5], []), (99999, [4], [])], none, [], []⟩
noncomputable def L75 : List (LoopS (Int × Unit)) := [⟨5, ⟨[(0, (.pv (.slice Y162))), (1, (.pv (.int .i64))), (5, (.pv (.int .i64)))], []⟩, fun κ => F75_R5 (fun y => κ.exit 0 (SSh.mk' ⟨[(1, (.pv (.int .i64)))], []⟩ y)) (fun y => κ.ret (SSh.mk' ⟨[(4, (.pv (.int .i64)))], []⟩ y))⟩]
theorem L75_5 : RoundEq E75 L75 L75[0] (nthLoop (codeOf Tryz.f75) 0) := fun κ N x => by kernel_rfl
theorem C75_ok : QuietOk Tryz.prog 75 C75 := tQ E75 L75 [nthLoop (codeOf Tryz.f75) 0] Tryz.func75 ty_ok (.cons C106_ok .nil) (.cons L75[0] (by kernel_rfl) L75_5 .nil)
noncomputable def F43 (a0 : D89) (a1 : Int) : Option (Int × Unit) :=
 (Option.bind (F73 a0.2.2.1 a1) fun y0 =>
 (cond (decide (y0.1 < (0 : Int)))
 (some ((-(1 : Int)), ()))
 (Option.bind (F75 a0.2.2.2.1 y0.1) fun y2 =>
 (cond (decide (y2.1 < (0 : Int)))
 (some ((-(1 : Int)), ()))
 (some (y2.1, ()))))))
noncomputable def C43 : Fun := ⟨[(.ro Y89), (.ro (.int .i64))], [((.int .i64), .z)], fun z => F43 z.1 z.2.1⟩
noncomputable def E43 : Env := ⟨18, tyTab tys, oneTab ones, fnTab [(73, C73), (75, C75)], false, [], [(4, [1, 2], []), (7, [1], []), (99999, [4], [])], none, [], []⟩
noncomputable def L43 : List (LoopS (Int × Unit)) := []
theorem C43_ok : QuietOk Tryz.prog 43 C43 := tQ E43 L43 [] Tryz.func43 ty_ok (.cons C73_ok (.cons C75_ok .nil)) .nil
noncomputable def F21_R5 (e0_0 : Int × Unit → Option (Int × Unit)) (er_1 : Int × Unit → Option (Int × Unit)) (rec : List (D89) × Int × Int × Unit → Option (Int × Unit)) (x3 : List (D89) × Int × Int × Unit) : Option (Int × Unit) :=
 (cond (decide (x3.2.2.1 < (((List.length x3.1) : Nat) : Int)))
 (gd (decide ((0 : Int) ≤ x3.2.2.1))
 (Option.bind x3.1[(Int.toNat x3.2.2.1)]? fun y6 =>
 (Option.bind (F43 y6 x3.2.1) fun y7 =>
 (cond (decide (y7.1 < (0 : Int)))
 (er_1 ((-(1 : Int)), ()))
 (rec (x3.1, y7.1, (IntKind.wrap IntKind.i64 (x3.2.2.1 + (1 : Int))), ()))))))
 (e0_0 (x3.2.1, ())))
noncomputable def F21 (a0 : List (D89)) (a1 : Int) : Option (Int × Unit) :=
 (cond (decide ((IntKind.wrap IntKind.i64 (a1 - (((List.length a0) : Nat) : Int))) < (0 : Int)))
 (some ((-(1 : Int)), ()))
 (iter (F21_R5
 (fun y8 =>
 (some (y8.1, ())))
 (fun y9 =>
 (some (y9.1, ())))) fuel (a0, (IntKind.wrap IntKind.i64 (a1 - (((List.length a0) : Nat) : Int))), (0 : Int), ())))
noncomputable def C21 : Fun := ⟨[(.ro (.slice Y89)), (.ro (.int .i64))], [((.int .i64), .z)], fun z => F21 z.1 z.2.1⟩
noncomputable def E21 : Env := ⟨27, tyTab tys, oneTab ones, fnTab [(43, C43)], false, [], [(4, [0, 1], []), (5, [0, 1, 5], []), (6, [0, 1, 5], []), (7, [0, 1, 5], []), (10, [1], []), (100000, [1], []), (100001, [0, 1, 5], []), (99999, [4], [])], none, [], []⟩
noncomputable def L21 : List (LoopS (Int × Unit)) := [⟨5, ⟨[(0, (.pv (.slice Y89))), (1, (.pv (.int .i64))), (5, (.pv (.int .i64)))], []⟩, fun κ => F21_R5 (fun y => κ.exit 0 (SSh.mk' ⟨[(1, (.pv (.int .i64)))], []⟩ y)) (fun y => κ.ret (SSh.mk' ⟨[(4, (.pv (.int .i64)))], []⟩ y))⟩]
theorem L21_5 : RoundEq E21 L21 L21[0] (nthLoop (codeOf Tryz.f21) 0) := fun κ N x => by kernel_rfl
theorem C21_ok : QuietOk Tryz.prog 21 C21 := tQ E21 L21 [nthLoop (codeOf Tryz.f21) 0] Tryz.func21 ty_ok (.cons C43_ok .nil) (.cons L21[0] (by kernel_rfl) L21_5 .nil)
noncomputable def F5 (a0 : D25) (a1 : Int) : Option (Int × Unit) :=
 (Option.bind (F19 a0.1 a1) fun y0 =>
 (cond (decide (y0.1 < (0 : Int)))
 (some ((-(1 : Int)), ()))
 (Option.bind (F20 a0.2.1 y0.1) fun y2 =>
 (cond (decide (y2.1 < (0 : Int)))
 (some ((-(1 : Int)), ()))
 (Option.bind (F21 a0.2.2.1 y2.1) fun y4 =>
 (cond (decide (y4.1 < (0 : Int)))
 (some ((-(1 : Int)), ()))
 (some (y4.1, ()))))))))
noncomputable def C5 : Fun := ⟨[(.ro Y25), (.ro (.int .i64))], [((.int .i64), .z)], fun z => F5 z.1 z.2.1⟩
noncomputable def E5 : Env := ⟨24, tyTab tys, oneTab ones, fnTab [(19, C19), (20, C20), (21, C21)], false, [], [(4, [1, 2], []), (7, [1, 2], []), (10, [1], []), (99999, [4], [])], none, [], []⟩
noncomputable def L5 : List (LoopS (Int × Unit)) := []
theorem C5_ok : QuietOk Tryz.prog 5 C5 := tQ E5 L5 [] Tryz.func5 ty_ok (.cons C19_ok (.cons C20_ok (.cons C21_ok .nil))) .nil
noncomputable def F36_R2 (e0_0 : Unit → Option (Int × Unit)) (er_1 : Int × Unit → Option (Int × Unit)) (rec : List (D55) × List UInt8 × Int × Unit → Option (Int × Unit)) (x2 : List (D55) × List UInt8 × Int × Unit) : Option (Int × Unit) :=
 (cond (decide (x2.2.2.1 < (((List.length x2.1) : Nat) : Int)))
 (gd (decide ((0 : Int) ≤ x2.2.2.1))
 (Option.bind x2.1[(Int.toNat x2.2.2.1)]? fun y5 =>
 (cond (y5.1 == x2.2.1)
 (er_1 (x2.2.2.1, ()))
 (rec (x2.1, x2.2.1, (IntKind.wrap IntKind.i64 (x2.2.2.1 + (1 : Int))), ())))))
 (e0_0 (())))
noncomputable def F36 (a0 : List (D55)) (a1 : List UInt8) : Option (Int × Unit) :=
 (iter (F36_R2
 (fun y6 =>
 (some ((-(1 : Int)), ())))
 (fun y7 =>
 (some (y7.1, ())))) fuel (a0, a1, (0 : Int), ()))
noncomputable def C36 : Fun := ⟨[(.ro (.slice Y55)), (.ro .str)], [((.int .i64), .z)], fun z => F36 z.1 z.2.1⟩
noncomputable def E36 : Env := ⟨20, tyTab tys, oneTab ones, fnTab [], false, [], [(2, [0, 1, 5], []), (3, [0, 1, 5], []), (4, [0, 1, 5], []), (6, [], []), (100000, [], []), (100001, [0, 1, 5], []), (99999, [4], [])], none, [], []⟩
noncomputable def L36 : List (LoopS (Int × Unit)) := [⟨2, ⟨[(0, (.pv (.slice Y55))), (1, (.pv .str)), (5, (.pv (.int .i64)))], []⟩, fun κ => F36_R2 (fun y => κ.exit 0 (SSh.mk' ⟨[], []⟩ y)) (fun y => κ.ret (SSh.mk' ⟨[(4, (.pv (.int .i64)))], []⟩ y))⟩]
theorem L36_2 : RoundEq E36 L36 L36[0] (nthLoop (codeOf Tryz.f36) 0) := fun κ N x => by kernel_rfl
theorem C36_ok : QuietOk Tryz.prog 36 C36 := tQ E36 L36 [nthLoop (codeOf Tryz.f36) 0] Tryz.func36 ty_ok .nil (.cons L36[0] (by kernel_rfl) L36_2 .nil)
noncomputable def F44 (a0 : Int) (a1 : Int) (a2 : Int) : Option (Bool × Unit) :=
 (cond (decide (a1 ≤ a0))
 (some ((decide (a0 ≤ a2)), ()))
 (some (false, ())))
noncomputable def C44 : Fun := ⟨[(.ro (.int .i64)), (.ro (.int .i64)), (.ro (.int .i64))], [(.bool, .z)], fun z => F44 z.1 z.2.1 z.2.2.1⟩
noncomputable def E44 : Env := ⟨15, tyTab tys, oneTab ones, fnTab [], false, [], [(99999, [6], [])], none, [], []⟩
noncomputable def L44 : List (LoopS (Bool × Unit)) := []
theorem C44_ok : QuietOk Tryz.prog 44 C44 := tQ E44 L44 [] Tryz.func44 ty_ok .nil .nil
noncomputable def F194 (a0 : Int) : Option (Bool × Unit) :=
 (cond (decide (a0 ≥ (97 : Int)))
 (cond (decide (a0 ≤ (122 : Int)))
 (some (true, ()))
 (cond (decide (a0 ≥ (65 : Int)))
 (cond (decide (a0 ≤ (90 : Int)))
 (some (true, ()))
 (some ((a0 == (95 : Int)), ())))
 (some ((a0 == (95 : Int)), ()))))
 (cond (decide (a0 ≥ (65 : Int)))
 (cond (decide (a0 ≤ (90 : Int)))
 (some (true, ()))
 (some ((a0 == (95 : Int)), ())))
 (some ((a0 == (95 : Int)), ()))))
noncomputable def C194 : Fun := ⟨[(.ro (.int .u8))], [(.bool, .z)], fun z => F194 z.1⟩
noncomputable def E194 : Env := ⟨21, tyTab tys, oneTab ones, fnTab [], false, [], [(99999, [2], [])], none, [], []⟩
noncomputable def L194 : List (LoopS (Bool × Unit)) := []
theorem C194_ok : QuietOk Tryz.prog 194 C194 := tQ E194 L194 [] Tryz.func194 ty_ok .nil .nil
noncomputable def F195 (a0 : Int) : Option (Bool × Unit) :=
 (cond (decide (a0 ≥ (48 : Int)))
 (some ((decide (a0 ≤ (57 : Int))), ()))
 (some (false, ())))
noncomputable def C195 : Fun := ⟨[(.ro (.int .u8))], [(.bool, .z)], fun z => F195 z.1⟩
noncomputable def E195 : Env := ⟨9, tyTab tys, oneTab ones, fnTab [], false, [], [(99999, [2], [])], none, [], []⟩
noncomputable def L195 : List (LoopS (Bool × Unit)) := []
theorem C195_ok : QuietOk Tryz.prog 195 C195 := tQ E195 L195 [] Tryz.func195 ty_ok .nil .nil
noncomputable def F173_R4 (e0_0 : Unit → Option (Bool × Unit)) (er_1 : Bool × Unit → Option (Bool × Unit)) (rec : List UInt8 × Int × Unit → Option (Bool × Unit)) (x5 : List UInt8 × Int × Unit) : Option (Bool × Unit) :=
 (cond (decide (x5.2.1 < (((List.length x5.1) : Nat) : Int)))
 (let j12 : List UInt8 × Int × Unit → Option (Bool × Unit) := fun (y13 : List UInt8 × Int × Unit) =>
 (rec (y13.1, (IntKind.wrap IntKind.i64 (y13.2.1 + (1 : Int))), ()))
 (gd (decide ((0 : Int) ≤ x5.2.1))
 (Option.bind x5.1[(Int.toNat x5.2.1)]? fun y8 =>
 (Option.bind (F194 (((UInt8.toNat y8) : Nat) : Int)) fun y9 =>
 (cond (!y9.1)
 (gd (decide ((0 : Int) ≤ x5.2.1))
 (Option.bind x5.1[(Int.toNat x5.2.1)]? fun y10 =>
 (Option.bind (F195 (((UInt8.toNat y10) : Nat) : Int)) fun y11 =>
 (cond (!y11.1)
 (er_1 (false, ()))
 (j12 (x5.1, x5.2.1, ()))))))
 (j12 (x5.1, x5.2.1, ())))))))
 (e0_0 (())))
noncomputable def F173 (a0 : List UInt8) : Option (Bool × Unit) :=
 (cond (decide ((((List.length a0) : Nat) : Int) < (1 : Int)))
 (some (false, ()))
 (cond (decide ((((List.length a0) : Nat) : Int) > (40 : Int)))
 (some (false, ()))
 (Option.bind a0[(Int.toNat (0 : Int))]? fun y1 =>
 (Option.bind (F194 (((UInt8.toNat y1) : Nat) : Int)) fun y2 =>
 (cond (!y2.1)
 (some (false, ()))
 (iter (F173_R4
 (fun y14 =>
 (some (true, ())))
 (fun y15 =>
 (some (y15.1, ())))) fuel (a0, (1 : Int), ())))))))
noncomputable def C173 : Fun := ⟨[(.ro .str)], [(.bool, .z)], fun z => F173 z.1⟩
noncomputable def E173 : Env := ⟨36, tyTab tys, oneTab ones, fnTab [(194, C194), (195, C195)], false, [], [(3, [0], []), (4, [0, 3], []), (5, [0, 3], []), (6, [0, 3], []), (8, [], []), (100000, [], []), (100001, [0, 3], []), (99999, [2], [])], none, [], []⟩
noncomputable def L173 : List (LoopS (Bool × Unit)) := [⟨4, ⟨[(0, (.pv .str)), (3, (.pv (.int .i64)))], []⟩, fun κ => F173_R4 (fun y => κ.exit 0 (SSh.mk' ⟨[], []⟩ y)) (fun y => κ.ret (SSh.mk' ⟨[(2, (.pv .bool))], []⟩ y))⟩]
theorem L173_4 : RoundEq E173 L173 L173[0] (nthLoop (codeOf Tryz.f173) 0) := fun κ N x => by kernel_rfl
theorem C173_ok : QuietOk Tryz.prog 173 C173 := tQ E173 L173 [nthLoop (codeOf Tryz.f173) 0] Tryz.func173 ty_ok (.cons C194_ok (.cons C195_ok .nil)) (.cons L173[0] (by kernel_rfl) L173_4 .nil)
noncomputable def F141 (a0 : List UInt8) : Option (Bool × Unit) :=
 (Option.bind (F173 a0) fun y0 =>
 (some (y0.1, ())))
noncomputable def C141 : Fun := ⟨[(.ro .str)], [(.bool, .z)], fun z => F141 z.1⟩
noncomputable def E141 : Env := ⟨5, tyTab tys, oneTab ones, fnTab [(173, C173)], false, [], [(99999, [2], [])], none, [], []⟩
noncomputable def L141 : List (LoopS (Bool × Unit)) := []
theorem C141_ok : QuietOk Tryz.prog 141 C141 := tQ E141 L141 [] Tryz.func141 ty_ok (.cons C173_ok .nil) .nil
noncomputable def F107 (a0 : List UInt8) : Option (Bool × Unit) :=
 (Option.bind (F141 a0) fun y0 =>
 (cond y0.1
 (some ((decide ((((List.length a0) : Nat) : Int) ≤ (12 : Int))), ()))
 (some (false, ()))))
noncomputable def C107 : Fun := ⟨[(.ro .str)], [(.bool, .z)], fun z => F107 z.1⟩
noncomputable def E107 : Env := ⟨10, tyTab tys, oneTab ones, fnTab [(141, C141)], false, [], [(99999, [2], [])], none, [], []⟩
noncomputable def L107 : List (LoopS (Bool × Unit)) := []
theorem C107_ok : QuietOk Tryz.prog 107 C107 := tQ E107 L107 [] Tryz.func107 ty_ok (.cons C141_ok .nil) .nil
noncomputable def F174_R4 (e0_0 : List UInt8 × Int × List (List UInt8) × Unit → Option (List (List UInt8) × Unit)) (rec : List UInt8 × Int × Int × Int × List (List UInt8) × Unit → Option (List (List UInt8) × Unit)) (x2 : List UInt8 × Int × Int × Int × List (List UInt8) × Unit) : Option (List (List UInt8) × Unit) :=
 (cond (decide (x2.2.2.2.1 < (((List.length x2.1) : Nat) : Int)))
 (let j6 : List UInt8 × Int × Int × Int × List (List UInt8) × Unit → Option (List (List UInt8) × Unit) := fun (y7 : List UInt8 × Int × Int × Int × List (List UInt8) × Unit) =>
 (rec (y7.1, y7.2.1, y7.2.2.1, (IntKind.wrap IntKind.i64 (y7.2.2.2.1 + (1 : Int))), y7.2.2.2.2.1, ()))
 (gd (decide ((0 : Int) ≤ x2.2.2.2.1))
 (Option.bind x2.1[(Int.toNat x2.2.2.2.1)]? fun y5 =>
 (cond ((((UInt8.toNat y5) : Nat) : Int) == x2.2.1)
 (gd (decide ((0 : Int) ≤ x2.2.2.2.1))
 (gd (decide (x2.2.2.2.1 ≤ (((List.length x2.1) : Nat) : Int)))
 (gd (decide ((0 : Int) ≤ x2.2.2.1))
 (gd (decide (x2.2.2.1 ≤ (((Int.toNat x2.2.2.2.1) : Nat) : Int)))
 (gd (decide (((List.length x2.2.2.2.2.1) + (List.length [(List.drop (Int.toNat x2.2.2.1) (List.take (Int.toNat x2.2.2.2.1) x2.1))])) ≤ lim))
 (j6 (x2.1, x2.2.1, (IntKind.wrap IntKind.i64 (x2.2.2.2.1 + (1 : Int))), x2.2.2.2.1, (x2.2.2.2.2.1 ++ [(List.drop (Int.toNat x2.2.2.1) (List.take (Int.toNat x2.2.2.2.1) x2.1))]), ())))))))
 (j6 (x2.1, x2.2.1, x2.2.2.1, x2.2.2.2.1, x2.2.2.2.2.1, ()))))))
 (e0_0 (x2.1, x2.2.2.1, x2.2.2.2.2.1, ())))
noncomputable def F174 (a0 : List UInt8) (a1 : Int) : Option (List (List UInt8) × Unit) :=
 (iter (F174_R4
 (fun y8 =>
 (gd (decide ((((List.length y8.1) : Nat) : Int) ≤ (((List.length y8.1) : Nat) : Int)))
 (gd (decide ((0 : Int) ≤ y8.2.1))
 (gd (decide (y8.2.1 ≤ (((Int.toNat (((List.length y8.1) : Nat) : Int)) : Nat) : Int)))
 (gd (decide (((List.length y8.2.2.1) + (List.length [(List.drop (Int.toNat y8.2.1) (List.take (Int.toNat (((List.length y8.1) : Nat) : Int)) y8.1))])) ≤ lim))
 (some ((y8.2.2.1 ++ [(List.drop (Int.toNat y8.2.1) (List.take (Int.toNat (((List.length y8.1) : Nat) : Int)) y8.1))]), ())))))))) fuel (a0, a1, (0 : Int), (0 : Int), [], ()))
noncomputable def C174 : Fun := ⟨[(.ro .str), (.ro (.int .u8))], [((.slice .str), .z)], fun z => F174 z.1 z.2.1⟩
noncomputable def E174 : Env := ⟨35, tyTab tys, oneTab ones, fnTab [], false, [], [(4, [0, 1, 5, 6, 7], []), (5, [0, 1, 5, 6, 7], []), (6, [0, 1, 5, 6, 7], []), (9, [0, 5, 6], []), (100000, [0, 5, 6], []), (100001, [0, 1, 5, 6, 7], []), (99999, [4], [])], none, [], []⟩
noncomputable def L174 : List (LoopS (List (List UInt8) × Unit)) := [⟨4, ⟨[(0, (.pv .str)), (1, (.pv (.int .u8))), (5, (.ref (.slice .str) 64 [])), (6, (.pv (.int .i64))), (7, (.pv (.int .i64)))], [(64, (.data false (.slice .str) (.own .z)))]⟩, fun κ => F174_R4 (fun y => κ.exit 0 (SSh.mk' ⟨[(0, (.pv .str)), (5, (.ref (.slice .str) 64 [])), (6, (.pv (.int .i64)))], [(64, (.data false (.slice .str) (.own .z)))]⟩ y))⟩]
theorem L174_4 : RoundEq E174 L174 L174[0] (nthLoop (codeOf Tryz.f174) 0) := fun κ N x => by kernel_rfl
theorem C174_ok : QuietOk Tryz.prog 174 C174 := tQ E174 L174 [nthLoop (codeOf Tryz.f174) 0] Tryz.func174 ty_ok .nil (.cons L174[0] (by kernel_rfl) L174_4 .nil)
noncomputable def F142_R7 (e0_0 : Unit → Option (Bool × Unit)) (er_1 : Bool × Unit → Option (Bool × Unit)) (rec : List (List UInt8) × Int × Unit → Option (Bool × Unit)) (x5 : List (List UInt8) × Int × Unit) : Option (Bool × Unit) :=
 (cond (decide (x5.2.1 < (((List.length x5.1) : Nat) : Int)))
 (gd (decide ((0 : Int) ≤ x5.2.1))
 (Option.bind x5.1[(Int.toNat x5.2.1)]? fun y8 =>
 (Option.bind (F107 y8) fun y9 =>
 (cond (!y9.1)
 (er_1 (false, ()))
 (rec (x5.1, (IntKind.wrap IntKind.i64 (x5.2.1 + (1 : Int))), ()))))))
 (e0_0 (())))
noncomputable def F142 (a0 : List UInt8) : Option (Bool × Unit) :=
 (cond (decide ((((List.length a0) : Nat) : Int) > (65536 : Int)))
 (some (false, ()))
 (Option.bind (F174 a0 (46 : Int)) fun y1 =>
 (cond (decide ((((List.length y1.1) : Nat) : Int) > (4 : Int)))
 (some (false, ()))
 (cond (decide ((((List.length a0) : Nat) : Int) > (50 : Int)))
 (some (false, ()))
 (iter (F142_R7
 (fun y10 =>
 (some (true, ())))
 (fun y11 =>
 (some (y11.1, ())))) fuel (y1.1, (0 : Int), ()))))))
noncomputable def C142 : Fun := ⟨[(.ro .str)], [(.bool, .z)], fun z => F142 z.1⟩
noncomputable def E142 : Env := ⟨30, tyTab tys, oneTab ones, fnTab [(107, C107), (174, C174)], false, [], [(3, [0], []), (6, [3], []), (7, [3, 4], []), (8, [3, 4], []), (9, [3, 4], []), (11, [], []), (100000, [], []), (100001, [3, 4], []), (99999, [2], [])], none, [], []⟩
noncomputable def L142 : List (LoopS (Bool × Unit)) := [⟨7, ⟨[(3, (.pv (.slice .str))), (4, (.pv (.int .i64)))], []⟩, fun κ => F142_R7 (fun y => κ.exit 0 (SSh.mk' ⟨[], []⟩ y)) (fun y => κ.ret (SSh.mk' ⟨[(2, (.pv .bool))], []⟩ y))⟩]
theorem L142_7 : RoundEq E142 L142 L142[0] (nthLoop (codeOf Tryz.f142) 0) := fun κ N x => by kernel_rfl
theorem C142_ok : QuietOk Tryz.prog 142 C142 := tQ E142 L142 [nthLoop (codeOf Tryz.f142) 0] Tryz.func142 ty_ok (.cons C107_ok (.cons C174_ok .nil)) (.cons L142[0] (by kernel_rfl) L142_7 .nil)
noncomputable def F108_R4 (e0_0 : D158 × Unit → Option (Bool × Unit)) (er_1 : Bool × Unit → Option (Bool × Unit)) (rec : Int × D158 × Unit → Option (Bool × Unit)) (x5 : Int × D158 × Unit) : Option (Bool × Unit) :=
 (cond (decide (x5.1 < (((List.length x5.2.1.2.1) : Nat) : Int)))
 (gd (decide ((0 : Int) ≤ x5.1))
 (Option.bind x5.2.1.2.1[(Int.toNat x5.1)]? fun y8 =>
 (Option.bind (F142 y8.1) fun y9 =>
 (cond (!y9.1)
 (er_1 (false, ()))
 (rec ((IntKind.wrap IntKind.i64 (x5.1 + (1 : Int))), x5.2.1, ()))))))
 (e0_0 (x5.2.1, ())))
noncomputable def F108 (a0 : D158) : Option (Bool × Unit) :=
 (Option.bind (F107 a0.1) fun y1 =>
 (cond (!y1.1)
 (some (false, ()))
 (Option.bind (F44 (((List.length a0.2.1) : Nat) : Int) (1 : Int) (2 : Int)) fun y2 =>
 (cond (!y2.1)
 (some (false, ()))
 (iter (F108_R4
 (fun y10 =>
 (cond ((((List.length y10.1.2.1) : Nat) : Int) == (1 : Int))
 (some (true, ()))
 (Option.bind y10.1.2.1[(Int.toNat (0 : Int))]? fun y12 =>
 (Option.bind y10.1.2.1[(Int.toNat (1 : Int))]? fun y13 =>
 (some ((!(y12.1 == y13.1)), ()))))))
 (fun y11 =>
 (some (y11.1, ())))) fuel ((0 : Int), a0, ()))))))
noncomputable def C108 : Fun := ⟨[(.ro Y158)], [(.bool, .z)], fun z => F108 z.1⟩
noncomputable def E108 : Env := ⟨47, tyTab tys, oneTab ones, fnTab [(44, C44), (107, C107), (142, C142)], false, [], [(3, [1], []), (4, [1, 3], []), (5, [1, 3], []), (6, [1, 3], []), (8, [1], []), (100000, [1], []), (100001, [1, 3], []), (99999, [2], [])], none, [], []⟩
noncomputable def L108 : List (LoopS (Bool × Unit)) := [⟨4, ⟨[(1, (.ptr 8 [])), (3, (.pv (.int .i64)))], [(8, (.data true Y158 .z))]⟩, fun κ => F108_R4 (fun y => κ.exit 0 (SSh.mk' ⟨[(1, (.ptr 8 []))], [(8, (.data true Y158 .z))]⟩ y)) (fun y => κ.ret (SSh.mk' ⟨[(2, (.pv .bool))], []⟩ y))⟩]
theorem L108_4 : RoundEq E108 L108 L108[0] (nthLoop (codeOf Tryz.f108) 0) := fun κ N x => by kernel_rfl
theorem C108_ok : QuietOk Tryz.prog 108 C108 := tQ E108 L108 [nthLoop (codeOf Tryz.f108) 0] Tryz.func108 ty_ok (.cons C44_ok (.cons C107_ok (.cons C142_ok .nil))) (.cons L108[0] (by kernel_rfl) L108_4 .nil)
noncomputable def F222_R3 (e0_0 : Int × Unit → Option (Int × Unit)) (rec : List UInt8 × Int × Int × Unit → Option (Int × Unit)) (x2 : List UInt8 × Int × Int × Unit) : Option (Int × Unit) :=
 (cond (decide (x2.2.2.1 < (((List.length x2.1) : Nat) : Int)))
 (gd (decide ((0 : Int) ≤ x2.2.2.1))
 (Option.bind x2.1[(Int.toNat x2.2.2.1)]? fun y4 =>
 (rec (x2.1, (IntKind.wrap IntKind.i64 ((IntKind.wrap IntKind.i64 (x2.2.1 * (256 : Int))) + (IntKind.wrap IntKind.i64 (((UInt8.toNat y4) : Nat) : Int)))), (IntKind.wrap IntKind.i64 (x2.2.2.1 + (1 : Int))), ()))))
 (e0_0 (x2.2.1, ())))
noncomputable def F222 (a0 : List UInt8) : Option (Int × Unit) :=
 (iter (F222_R3
 (fun y5 =>
 (some (y5.1, ())))) fuel (a0, (0 : Int), (0 : Int), ()))
noncomputable def C222 : Fun := ⟨[(.ro .str)], [((.int .i64), .z)], fun z => F222 z.1⟩
noncomputable def E222 : Env := ⟨19, tyTab tys, oneTab ones, fnTab [], false, [], [(3, [0, 3, 4], []), (5, [0, 3, 4], []), (6, [3], []), (100000, [3], []), (100001, [0, 3, 4], []), (99999, [2], [])], none, [], []⟩
noncomputable def L222 : List (LoopS (Int × Unit)) := [⟨3, ⟨[(0, (.pv .str)), (3, (.pv (.int .i64))), (4, (.pv (.int .i64)))], []⟩, fun κ => F222_R3 (fun y => κ.exit 0 (SSh.mk' ⟨[(3, (.pv (.int .i64)))], []⟩ y))⟩]
theorem L222_3 : RoundEq E222 L222 L222[0] (nthLoop (codeOf Tryz.f222) 0) := fun κ N x => by kernel_rfl
theorem C222_ok : QuietOk Tryz.prog 222 C222 := tQ E222 L222 [nthLoop (codeOf Tryz.f222) 0] Tryz.func222 ty_ok .nil (.cons L222[0] (by kernel_rfl) L222_3 .nil)
noncomputable def F212 (a0 : List UInt8) : Option (D74 × List UInt8 × Bool × Unit) :=
 (cond ((((List.length a0) : Nat) : Int) == (0 : Int))
 (some (((0 : Int), ((0 : Int), ([], ()))), ([], (false, ()))))
 (Option.bind a0[(Int.toNat (0 : Int))]? fun y1 =>
 (let j13 : List UInt8 × Int × D74 × D74 × Unit → Option (D74 × List UInt8 × Bool × Unit) := fun (y14 : List UInt8 × Int × D74 × D74 × Unit) =>
 (cond (decide ((((List.length y14.1) : Nat) : Int) < (IntKind.wrap IntKind.i64 ((1 : Int) + y14.2.1))))
 (some (((0 : Int), ((0 : Int), ([], ()))), ([], (false, ()))))
 (let j21 : List UInt8 × Int × D74 × D74 × Unit → Option (D74 × List UInt8 × Bool × Unit) := fun (y22 : List UInt8 × Int × D74 × D74 × Unit) =>
 (gd (decide ((((List.length y22.1) : Nat) : Int) ≤ (((List.length y22.1) : Nat) : Int)))
 (gd (decide ((0 : Int) ≤ (IntKind.wrap IntKind.i64 ((1 : Int) + y22.2.1))))
 (gd (decide ((IntKind.wrap IntKind.i64 ((1 : Int) + y22.2.1)) ≤ (((Int.toNat (((List.length y22.1) : Nat) : Int)) : Nat) : Int)))
 (some (y22.2.2.2.1, ((List.drop (Int.toNat (IntKind.wrap IntKind.i64 ((1 : Int) + y22.2.1))) (List.take (Int.toNat (((List.length y22.1) : Nat) : Int)) y22.1)), (true, ())))))))
 (cond (y14.2.1 == (1 : Int))
 (Option.bind y14.1[(Int.toNat (1 : Int))]? fun y17 =>
 (j21 (y14.1, y14.2.1, y14.2.2.1, (y14.2.2.2.1.1, ((IntKind.wrap IntKind.i64 (((UInt8.toNat y17) : Nat) : Int)), y14.2.2.2.1.2.2)), ())))
 (Option.bind y14.1[(Int.toNat (1 : Int))]? fun y19 =>
 (cond (decide ((((UInt8.toNat y19) : Nat) : Int) > (127 : Int)))
 (some (((0 : Int), ((0 : Int), ([], ()))), ([], (false, ()))))
 (gd (decide ((9 : Int) ≤ (((List.length y14.1) : Nat) : Int)))
 (Option.bind (F222 (List.drop (Int.toNat (1 : Int)) (List.take (Int.toNat (9 : Int)) y14.1))) fun y20 =>
 (j21 (y14.1, y14.2.1, y14.2.2.1, (y14.2.2.2.1.1, ((IntKind.wrap IntKind.i64 (y20.1 - (4611686018427387904 : Int))), y14.2.2.2.1.2.2)), ())))))))))
 (cond ((IntKind.wrap IntKind.i64 (((UInt8.toNat y1) : Nat) : Int)) == (0 : Int))
 (gd (decide ((((List.length a0) : Nat) : Int) ≤ (((List.length a0) : Nat) : Int)))
 (gd (decide ((1 : Int) ≤ (((Int.toNat (((List.length a0) : Nat) : Int)) : Nat) : Int)))
 (some (((IntKind.wrap IntKind.i64 (((UInt8.toNat y1) : Nat) : Int)), ((0 : Int), ([], ()))), ((List.drop (Int.toNat (1 : Int)) (List.take (Int.toNat (((List.length a0) : Nat) : Int)) a0)), (true, ()))))))
 (cond ((IntKind.wrap IntKind.i64 (((UInt8.toNat y1) : Nat) : Int)) == (1 : Int))
 (j13 (a0, (1 : Int), ((0 : Int), ((0 : Int), ([], ()))), ((IntKind.wrap IntKind.i64 (((UInt8.toNat y1) : Nat) : Int)), ((0 : Int), ([], ()))), ()))
 (cond ((IntKind.wrap IntKind.i64 (((UInt8.toNat y1) : Nat) : Int)) == (2 : Int))
 (j13 (a0, (8 : Int), ((0 : Int), ((0 : Int), ([], ()))), ((IntKind.wrap IntKind.i64 (((UInt8.toNat y1) : Nat) : Int)), ((0 : Int), ([], ()))), ()))
 (cond ((IntKind.wrap IntKind.i64 (((UInt8.toNat y1) : Nat) : Int)) == (3 : Int))
 (cond ((IntKind.wrap IntKind.i64 (((UInt8.toNat y1) : Nat) : Int)) == (3 : Int))
 (cond (decide ((((List.length a0) : Nat) : Int) < (3 : Int)))
 (some (((0 : Int), ((0 : Int), ([], ()))), ([], (false, ()))))
 (gd (decide ((3 : Int) ≤ (((List.length a0) : Nat) : Int)))
 (Option.bind (F222 (List.drop (Int.toNat (1 : Int)) (List.take (Int.toNat (3 : Int)) a0))) fun y5 =>
 (cond (decide ((((List.length a0) : Nat) : Int) < (IntKind.wrap IntKind.i64 ((3 : Int) + y5.1))))
 (some (((0 : Int), ((0 : Int), ([], ()))), ([], (false, ()))))
 (gd (decide ((0 : Int) ≤ (IntKind.wrap IntKind.i64 ((3 : Int) + y5.1))))
 (gd (decide ((IntKind.wrap IntKind.i64 ((3 : Int) + y5.1)) ≤ (((List.length a0) : Nat) : Int)))
 (gd (decide ((3 : Int) ≤ (((Int.toNat (IntKind.wrap IntKind.i64 ((3 : Int) + y5.1))) : Nat) : Int)))
 (gd (decide ((((List.length a0) : Nat) : Int) ≤ (((List.length a0) : Nat) : Int)))
 (gd (decide ((0 : Int) ≤ (IntKind.wrap IntKind.i64 ((3 : Int) + y5.1))))
 (gd (decide ((IntKind.wrap IntKind.i64 ((3 : Int) + y5.1)) ≤ (((Int.toNat (((List.length a0) : Nat) : Int)) : Nat) : Int)))
 (some (((IntKind.wrap IntKind.i64 (((UInt8.toNat y1) : Nat) : Int)), ((0 : Int), ((List.drop (Int.toNat (3 : Int)) (List.take (Int.toNat (IntKind.wrap IntKind.i64 ((3 : Int) + y5.1))) a0)), ()))), ((List.drop (Int.toNat (IntKind.wrap IntKind.i64 ((3 : Int) + y5.1))) (List.take (Int.toNat (((List.length a0) : Nat) : Int)) a0)), (true, ()))))))))))))))
 (some (((0 : Int), ((0 : Int), ([], ()))), ([], (false, ())))))
 (cond ((IntKind.wrap IntKind.i64 (((UInt8.toNat y1) : Nat) : Int)) == (4 : Int))
 (cond ((IntKind.wrap IntKind.i64 (((UInt8.toNat y1) : Nat) : Int)) == (4 : Int))
 (cond (decide ((((List.length a0) : Nat) : Int) < (3 : Int)))
 (some (((0 : Int), ((0 : Int), ([], ()))), ([], (false, ()))))
 (gd (decide ((3 : Int) ≤ (((List.length a0) : Nat) : Int)))
 (Option.bind (F222 (List.drop (Int.toNat (1 : Int)) (List.take (Int.toNat (3 : Int)) a0))) fun y8 =>
 (cond (decide ((((List.length a0) : Nat) : Int) < (IntKind.wrap IntKind.i64 ((3 : Int) + y8.1))))
 (some (((0 : Int), ((0 : Int), ([], ()))), ([], (false, ()))))
 (gd (decide ((0 : Int) ≤ (IntKind.wrap IntKind.i64 ((3 : Int) + y8.1))))
 (gd (decide ((IntKind.wrap IntKind.i64 ((3 : Int) + y8.1)) ≤ (((List.length a0) : Nat) : Int)))
 (gd (decide ((3 : Int) ≤ (((Int.toNat (IntKind.wrap IntKind.i64 ((3 : Int) + y8.1))) : Nat) : Int)))
 (gd (decide ((((List.length a0) : Nat) : Int) ≤ (((List.length a0) : Nat) : Int)))
 (gd (decide ((0 : Int) ≤ (IntKind.wrap IntKind.i64 ((3 : Int) + y8.1))))
 (gd (decide ((IntKind.wrap IntKind.i64 ((3 : Int) + y8.1)) ≤ (((Int.toNat (((List.length a0) : Nat) : Int)) : Nat) : Int)))
 (some (((IntKind.wrap IntKind.i64 (((UInt8.toNat y1) : Nat) : Int)), ((0 : Int), ((List.drop (Int.toNat (3 : Int)) (List.take (Int.toNat (IntKind.wrap IntKind.i64 ((3 : Int) + y8.1))) a0)), ()))), ((List.drop (Int.toNat (IntKind.wrap IntKind.i64 ((3 : Int) + y8.1))) (List.take (Int.toNat (((List.length a0) : Nat) : Int)) a0)), (true, ()))))))))))))))
 (some (((0 : Int), ((0 : Int), ([], ()))), ([], (false, ())))))
 (cond ((IntKind.wrap IntKind.i64 (((UInt8.toNat y1) : Nat) : Int)) == (5 : Int))
 (cond (decide ((((List.length a0) : Nat) : Int) < (3 : Int)))
 (some (((0 : Int), ((0 : Int), ([], ()))), ([], (false, ()))))
 (gd (decide ((3 : Int) ≤ (((List.length a0) : Nat) : Int)))
 (Option.bind (F222 (List.drop (Int.toNat (1 : Int)) (List.take (Int.toNat (3 : Int)) a0))) fun y11 =>
 (cond (decide ((((List.length a0) : Nat) : Int) < (IntKind.wrap IntKind.i64 ((3 : Int) + y11.1))))
 (some (((0 : Int), ((0 : Int), ([], ()))), ([], (false, ()))))
 (gd (decide ((0 : Int) ≤ (IntKind.wrap IntKind.i64 ((3 : Int) + y11.1))))
 (gd (decide ((IntKind.wrap IntKind.i64 ((3 : Int) + y11.1)) ≤ (((List.length a0) : Nat) : Int)))
 (gd (decide ((3 : Int) ≤ (((Int.toNat (IntKind.wrap IntKind.i64 ((3 : Int) + y11.1))) : Nat) : Int)))
 (gd (decide ((((List.length a0) : Nat) : Int) ≤ (((List.length a0) : Nat) : Int)))
 (gd (decide ((0 : Int) ≤ (IntKind.wrap IntKind.i64 ((3 : Int) + y11.1))))
 (gd (decide ((IntKind.wrap IntKind.i64 ((3 : Int) + y11.1)) ≤ (((Int.toNat (((List.length a0) : Nat) : Int)) : Nat) : Int)))
 (some (((IntKind.wrap IntKind.i64 (((UInt8.toNat y1) : Nat) : Int)), ((0 : Int), ((List.drop (Int.toNat (3 : Int)) (List.take (Int.toNat (IntKind.wrap IntKind.i64 ((3 : Int) + y11.1))) a0)), ()))), ((List.drop (Int.toNat (IntKind.wrap IntKind.i64 ((3 : Int) + y11.1))) (List.take (Int.toNat (((List.length a0) : Nat) : Int)) a0)), (true, ()))))))))))))))
 (some (((0 : Int), ((0 : Int), ([], ()))), ([], (false, ())))))))))))))
noncomputable def C212 : Fun := ⟨[(.ro .str)], [(Y74, .z), (.str, .z), (.bool, .z)], fun z => F212 z.1⟩
noncomputable def E212 : Env := ⟨81, tyTab tys, oneTab ones, fnTab [(222, C222)], false, [], [(3, [0, 2], []), (18, [0, 2, 5], []), (21, [0, 2, 5, 7], []), (23, [0, 2, 5, 6], []), (25, [0, 2, 5, 6], []), (29, [0, 2, 5, 6], []), (30, [0, 2, 5, 6], []), (100000, [0, 2, 5, 6], []), (99999, [2, 3, 4], [])], none, [], []⟩
noncomputable def L212 : List (LoopS (D74 × List UInt8 × Bool × Unit)) := []
theorem C212_ok : QuietOk Tryz.prog 212 C212 := tQ E212 L212 [] Tryz.func212 ty_ok (.cons C222_ok .nil) .nil
noncomputable def F197_R2 (e0_0 : List (D268) × Unit → Option (List (D268) × Bool × Unit)) (er_1 : Bool × List (D268) × Unit → Option (List (D268) × Bool × Unit)) (er_2 : Bool × List (D268) × Unit → Option (List (D268) × Bool × Unit)) (rec : List UInt8 × List (D268) × Unit → Option (List (D268) × Bool × Unit)) (x2 : List UInt8 × List (D268) × Unit) : Option (List (D268) × Bool × Unit) :=
 (cond (decide ((((List.length x2.1) : Nat) : Int) > (0 : Int)))
 (Option.bind x2.1[(Int.toNat (0 : Int))]? fun y4 =>
 (cond (decide ((((List.length x2.1) : Nat) : Int) < (IntKind.wrap IntKind.i64 ((1 : Int) + (IntKind.wrap IntKind.i64 (((UInt8.toNat y4) : Nat) : Int))))))
 (er_1 (false, [], ()))
 (gd (decide ((0 : Int) ≤ (IntKind.wrap IntKind.i64 ((1 : Int) + (IntKind.wrap IntKind.i64 (((UInt8.toNat y4) : Nat) : Int))))))
 (gd (decide ((IntKind.wrap IntKind.i64 ((1 : Int) + (IntKind.wrap IntKind.i64 (((UInt8.toNat y4) : Nat) : Int)))) ≤ (((List.length x2.1) : Nat) : Int)))
 (gd (decide ((1 : Int) ≤ (((Int.toNat (IntKind.wrap IntKind.i64 ((1 : Int) + (IntKind.wrap IntKind.i64 (((UInt8.toNat y4) : Nat) : Int))))) : Nat) : Int)))
 (gd (decide ((((List.length x2.1) : Nat) : Int) ≤ (((List.length x2.1) : Nat) : Int)))
 (gd (decide ((0 : Int) ≤ (IntKind.wrap IntKind.i64 ((1 : Int) + (IntKind.wrap IntKind.i64 (((UInt8.toNat y4) : Nat) : Int))))))
 (gd (decide ((IntKind.wrap IntKind.i64 ((1 : Int) + (IntKind.wrap IntKind.i64 (((UInt8.toNat y4) : Nat) : Int)))) ≤ (((Int.toNat (((List.length x2.1) : Nat) : Int)) : Nat) : Int)))
 (Option.bind (F212 (List.drop (Int.toNat (IntKind.wrap IntKind.i64 ((1 : Int) + (IntKind.wrap IntKind.i64 (((UInt8.toNat y4) : Nat) : Int))))) (List.take (Int.toNat (((List.length x2.1) : Nat) : Int)) x2.1))) fun y6 =>
 (cond (!y6.2.2.1)
 (er_2 (false, [], ()))
 (gd (decide (((List.length x2.2.1) + (List.length [((List.drop (Int.toNat (1 : Int)) (List.take (Int.toNat (IntKind.wrap IntKind.i64 ((1 : Int) + (IntKind.wrap IntKind.i64 (((UInt8.toNat y4) : Nat) : Int))))) x2.1)), (y6.1, ()))])) ≤ lim))
 (rec (y6.2.1, (x2.2.1 ++ [((List.drop (Int.toNat (1 : Int)) (List.take (Int.toNat (IntKind.wrap IntKind.i64 ((1 : Int) + (IntKind.wrap IntKind.i64 (((UInt8.toNat y4) : Nat) : Int))))) x2.1)), (y6.1, ()))]), ())))))))))))))
 (e0_0 (x2.2.1, ())))
noncomputable def F197 (a0 : List UInt8) : Option (List (D268) × Bool × Unit) :=
 (iter (F197_R2
 (fun y8 =>
 (some (y8.1, (true, ()))))
 (fun y9 =>
 (some (y9.2.1, (y9.1, ()))))
 (fun y10 =>
 (some (y10.2.1, (y10.1, ()))))) fuel (a0, [], ()))
noncomputable def C197 : Fun := ⟨[(.ro .str)], [((.slice Y268), .z), (.bool, .z)], fun z => F197 z.1⟩
noncomputable def E197 : Env := ⟨47, tyTab tys, oneTab ones, fnTab [(212, C212)], false, [], [(2, [0, 4], []), (3, [0, 4], []), (6, [0, 4, 5], []), (10, [4, 6, 7, 8], []), (12, [4], []), (100000, [4], []), (100001, [0, 4], []), (99999, [2, 3], [])], none, [], []⟩
noncomputable def L197 : List (LoopS (List (D268) × Bool × Unit)) := [⟨2, ⟨[(0, (.pv .str)), (4, (.ref (.slice Y268) 80 []))], [(80, (.data false (.slice Y268) (.own .z)))]⟩, fun κ => F197_R2 (fun y => κ.exit 0 (SSh.mk' ⟨[(4, (.ref (.slice Y268) 80 []))], [(80, (.data false (.slice Y268) (.own .z)))]⟩ y)) (fun y => κ.ret (SSh.mk' ⟨[(2, (.ref (.slice Y268) 176 [])), (3, (.pv .bool))], [(176, (.data false (.slice Y268) (.own .z)))]⟩ y)) (fun y => κ.ret (SSh.mk' ⟨[(2, (.ref (.slice Y268) 304 [])), (3, (.pv .bool))], [(304, (.data false (.slice Y268) (.own .z)))]⟩ y))⟩]
theorem L197_2 : RoundEq E197 L197 L197[0] (nthLoop (codeOf Tryz.f197) 0) := fun κ N x => by kernel_rfl
theorem C197_ok : QuietOk Tryz.prog 197 C197 := tQ E197 L197 [nthLoop (codeOf Tryz.f197) 0] Tryz.func197 ty_ok (.cons C212_ok .nil) (.cons L197[0] (by kernel_rfl) L197_2 .nil)
end Go.V
