/- What functions of the program compute, printed by a program of ours. No condition. -/
import Derived.Test.YtkffanggiblcjaaGreatDoorWRep
namespace Go.V
open Go.Proofs
set_option maxRecDepth 100000
set_option linter.unusedVariables false
noncomputable def F49 (a0 : D84) (a1 : Int) : Option (Int × Unit) :=
 (cond (decide ((IntKind.wrap IntKind.i64 (a1 - (((List.length a0.2.2.1) : Nat) : Int))) < (0 : Int)))
 (some ((-(1 : Int)), ()))
 (some ((IntKind.wrap IntKind.i64 (a1 - (((List.length a0.2.2.1) : Nat) : Int))), ())))
noncomputable def C49 : Fun := ⟨[(.ro Y84), (.ro (.int .i64))], [((.int .i64), .z)], fun z => F49 z.1 z.2.1⟩
noncomputable def E49 : Env := ⟨13, tyTab tys, oneTab ones, fnTab [], false, [], [(4, [1], []), (99999, [4], [])], none, [], []⟩
noncomputable def L49 : List (LoopS (Int × Unit)) := []
theorem C49_ok : QuietOk Tryz.prog 49 C49 := tQ E49 L49 [] Tryz.func49 ty_ok .nil .nil
noncomputable def F221 (a0 : D170) (a1 : Int) : Option (Int × Unit) :=
 (cond (decide ((IntKind.wrap IntKind.i64 (a1 - (((List.length a0.2.1) : Nat) : Int))) < (0 : Int)))
 (some ((-(1 : Int)), ()))
 (Option.bind (F49 a0.2.2.1 (IntKind.wrap IntKind.i64 (a1 - (((List.length a0.2.1) : Nat) : Int)))) fun y1 =>
 (cond (decide (y1.1 < (0 : Int)))
 (some ((-(1 : Int)), ()))
 (some (y1.1, ())))))
noncomputable def C221 : Fun := ⟨[(.ro Y170), (.ro (.int .i64))], [((.int .i64), .z)], fun z => F221 z.1 z.2.1⟩
noncomputable def E221 : Env := ⟨19, tyTab tys, oneTab ones, fnTab [(49, C49)], false, [], [(4, [1, 2], []), (7, [1], []), (99999, [4], [])], none, [], []⟩
noncomputable def L221 : List (LoopS (Int × Unit)) := []
theorem C221_ok : QuietOk Tryz.prog 221 C221 := tQ E221 L221 [] Tryz.func221 ty_ok (.cons C49_ok .nil) .nil
noncomputable def F181_R5 (e0_0 : Int × Unit → Option (Int × Unit)) (er_1 : Int × Unit → Option (Int × Unit)) (rec : List (D170) × Int × Int × Unit → Option (Int × Unit)) (x3 : List (D170) × Int × Int × Unit) : Option (Int × Unit) :=
 (cond (decide (x3.2.2.1 < (((List.length x3.1) : Nat) : Int)))
 (gd (decide ((0 : Int) ≤ x3.2.2.1))
 (Option.bind x3.1[(Int.toNat x3.2.2.1)]? fun y6 =>
 (Option.bind (F221 y6 x3.2.1) fun y7 =>
 (cond (decide (y7.1 < (0 : Int)))
 (er_1 ((-(1 : Int)), ()))
 (rec (x3.1, y7.1, (IntKind.wrap IntKind.i64 (x3.2.2.1 + (1 : Int))), ()))))))
 (e0_0 (x3.2.1, ())))
noncomputable def F181 (a0 : List (D170)) (a1 : Int) : Option (Int × Unit) :=
 (cond (decide ((IntKind.wrap IntKind.i64 (a1 - (((List.length a0) : Nat) : Int))) < (0 : Int)))
 (some ((-(1 : Int)), ()))
 (iter (F181_R5
 (fun y8 =>
 (some (y8.1, ())))
 (fun y9 =>
 (some (y9.1, ())))) fuel (a0, (IntKind.wrap IntKind.i64 (a1 - (((List.length a0) : Nat) : Int))), (0 : Int), ())))
noncomputable def C181 : Fun := ⟨[(.ro (.slice Y170)), (.ro (.int .i64))], [((.int .i64), .z)], fun z => F181 z.1 z.2.1⟩
noncomputable def E181 : Env := ⟨27, tyTab tys, oneTab ones, fnTab [(221, C221)], false, [], [(4, [0, 1], []), (5, [0, 1, 5], []), (6, [0, 1, 5], []), (7, [0, 1, 5], []), (10, [1], []), (100000, [1], []), (100001, [0, 1, 5], []), (99999, [4], [])], none, [], []⟩
noncomputable def L181 : List (LoopS (Int × Unit)) := [⟨5, ⟨[(0, (.pv (.slice Y170))), (1, (.pv (.int .i64))), (5, (.pv (.int .i64)))], []⟩, fun κ => F181_R5 (fun y => κ.exit 0 (SSh.mk' ⟨[(1, (.pv (.int .i64)))], []⟩ y)) (fun y => κ.ret (SSh.mk' ⟨[(4, (.pv (.int .i64)))], []⟩ y))⟩]
theorem L181_5 : RoundEq E181 L181 L181[0] (nthLoop (codeOf Tryz.f181) 0) := fun κ N x => by kernel_rfl
theorem C181_ok : QuietOk Tryz.prog 181 C181 := tQ E181 L181 [nthLoop (codeOf Tryz.f181) 0] Tryz.func181 ty_ok (.cons C221_ok .nil) (.cons L181[0] (by kernel_rfl) L181_5 .nil)
noncomputable def F136 (a0 : D157) (a1 : Int) : Option (Int × Unit) :=
 (Option.bind (F181 a0.1 a1) fun y0 =>
 (cond (decide (y0.1 < (0 : Int)))
 (some ((-(1 : Int)), ()))
 (some (y0.1, ()))))
noncomputable def C136 : Fun := ⟨[(.ro Y157), (.ro (.int .i64))], [((.int .i64), .z)], fun z => F136 z.1 z.2.1⟩
noncomputable def E136 : Env := ⟨12, tyTab tys, oneTab ones, fnTab [(181, C181)], false, [], [(4, [1], []), (99999, [4], [])], none, [], []⟩
noncomputable def L136 : List (LoopS (Int × Unit)) := []
theorem C136_ok : QuietOk Tryz.prog 136 C136 := tQ E136 L136 [] Tryz.func136 ty_ok (.cons C181_ok .nil) .nil
noncomputable def F91_R5 (e0_0 : Int × Unit → Option (Int × Unit)) (er_1 : Int × Unit → Option (Int × Unit)) (rec : List (D157) × Int × Int × Unit → Option (Int × Unit)) (x3 : List (D157) × Int × Int × Unit) : Option (Int × Unit) :=
 (cond (decide (x3.2.2.1 < (((List.length x3.1) : Nat) : Int)))
 (gd (decide ((0 : Int) ≤ x3.2.2.1))
 (Option.bind x3.1[(Int.toNat x3.2.2.1)]? fun y6 =>
 (Option.bind (F136 y6 x3.2.1) fun y7 =>
 (cond (decide (y7.1 < (0 : Int)))
 (er_1 ((-(1 : Int)), ()))
 (rec (x3.1, y7.1, (IntKind.wrap IntKind.i64 (x3.2.2.1 + (1 : Int))), ()))))))
 (e0_0 (x3.2.1, ())))
noncomputable def F91 (a0 : List (D157)) (a1 : Int) : Option (Int × Unit) :=
 (cond (decide ((IntKind.wrap IntKind.i64 (a1 - (((List.length a0) : Nat) : Int))) < (0 : Int)))
 (some ((-(1 : Int)), ()))
 (iter (F91_R5
 (fun y8 =>
 (some (y8.1, ())))
 (fun y9 =>
 (some (y9.1, ())))) fuel (a0, (IntKind.wrap IntKind.i64 (a1 - (((List.length a0) : Nat) : Int))), (0 : Int), ())))
noncomputable def C91 : Fun := ⟨[(.ro (.slice Y157)), (.ro (.int .i64))], [((.int .i64), .z)], fun z => F91 z.1 z.2.1⟩
noncomputable def E91 : Env := ⟨27, tyTab tys, oneTab ones, fnTab [(136, C136)], false, [], [(4, [0, 1], []), (5, [0, 1, 5], []), (6, [0, 1, 5], []), (7, [0, 1, 5], []), (10, [1], []), (100000, [1], []), (100001, [0, 1, 5], []), (99999, [4], [])], none, [], []⟩
noncomputable def L91 : List (LoopS (Int × Unit)) := [⟨5, ⟨[(0, (.pv (.slice Y157))), (1, (.pv (.int .i64))), (5, (.pv (.int .i64)))], []⟩, fun κ => F91_R5 (fun y => κ.exit 0 (SSh.mk' ⟨[(1, (.pv (.int .i64)))], []⟩ y)) (fun y => κ.ret (SSh.mk' ⟨[(4, (.pv (.int .i64)))], []⟩ y))⟩]
theorem L91_5 : RoundEq E91 L91 L91[0] (nthLoop (codeOf Tryz.f91) 0) := fun κ N x => by kernel_rfl
theorem C91_ok : QuietOk Tryz.prog 91 C91 := tQ E91 L91 [nthLoop (codeOf Tryz.f91) 0] Tryz.func91 ty_ok (.cons C136_ok .nil) (.cons L91[0] (by kernel_rfl) L91_5 .nil)
noncomputable def F46 (a0 : D44) (a1 : Int) : Option (Int × Unit) :=
 (Option.bind (F91 a0.1 a1) fun y0 =>
 (cond (decide (y0.1 < (0 : Int)))
 (some ((-(1 : Int)), ()))
 (some (y0.1, ()))))
noncomputable def C46 : Fun := ⟨[(.ro Y44), (.ro (.int .i64))], [((.int .i64), .z)], fun z => F46 z.1 z.2.1⟩
noncomputable def E46 : Env := ⟨12, tyTab tys, oneTab ones, fnTab [(91, C91)], false, [], [(4, [1], []), (99999, [4], [])], none, [], []⟩
noncomputable def L46 : List (LoopS (Int × Unit)) := []
theorem C46_ok : QuietOk Tryz.prog 46 C46 := tQ E46 L46 [] Tryz.func46 ty_ok (.cons C91_ok .nil) .nil
noncomputable def F68 (a0 : D103) (a1 : Int) : Option (Int × Unit) :=
 (cond (decide ((IntKind.wrap IntKind.i64 (a1 - (((List.length a0.1) : Nat) : Int))) < (0 : Int)))
 (some ((-(1 : Int)), ()))
 (Option.bind (F46 a0.2.1 (IntKind.wrap IntKind.i64 (a1 - (((List.length a0.1) : Nat) : Int)))) fun y1 =>
 (cond (decide (y1.1 < (0 : Int)))
 (some ((-(1 : Int)), ()))
 (some (y1.1, ())))))
noncomputable def C68 : Fun := ⟨[(.ro Y103), (.ro (.int .i64))], [((.int .i64), .z)], fun z => F68 z.1 z.2.1⟩
noncomputable def E68 : Env := ⟨19, tyTab tys, oneTab ones, fnTab [(46, C46)], false, [], [(4, [1, 2], []), (7, [1], []), (99999, [4], [])], none, [], []⟩
noncomputable def L68 : List (LoopS (Int × Unit)) := []
theorem C68_ok : QuietOk Tryz.prog 68 C68 := tQ E68 L68 [] Tryz.func68 ty_ok (.cons C46_ok .nil) .nil
noncomputable def F27_R5 (e0_0 : Int × Unit → Option (Int × Unit)) (er_1 : Int × Unit → Option (Int × Unit)) (rec : List (D103) × Int × Int × Unit → Option (Int × Unit)) (x3 : List (D103) × Int × Int × Unit) : Option (Int × Unit) :=
 (cond (decide (x3.2.2.1 < (((List.length x3.1) : Nat) : Int)))
 (gd (decide ((0 : Int) ≤ x3.2.2.1))
 (Option.bind x3.1[(Int.toNat x3.2.2.1)]? fun y6 =>
 (Option.bind (F68 y6 x3.2.1) fun y7 =>
 (cond (decide (y7.1 < (0 : Int)))
 (er_1 ((-(1 : Int)), ()))
 (rec (x3.1, y7.1, (IntKind.wrap IntKind.i64 (x3.2.2.1 + (1 : Int))), ()))))))
 (e0_0 (x3.2.1, ())))
noncomputable def F27 (a0 : List (D103)) (a1 : Int) : Option (Int × Unit) :=
 (cond (decide ((IntKind.wrap IntKind.i64 (a1 - (((List.length a0) : Nat) : Int))) < (0 : Int)))
 (some ((-(1 : Int)), ()))
 (iter (F27_R5
 (fun y8 =>
 (some (y8.1, ())))
 (fun y9 =>
 (some (y9.1, ())))) fuel (a0, (IntKind.wrap IntKind.i64 (a1 - (((List.length a0) : Nat) : Int))), (0 : Int), ())))
noncomputable def C27 : Fun := ⟨[(.ro (.slice Y103)), (.ro (.int .i64))], [((.int .i64), .z)], fun z => F27 z.1 z.2.1⟩
noncomputable def E27 : Env := ⟨27, tyTab tys, oneTab ones, fnTab [(68, C68)], false, [], [(4, [0, 1], []), (5, [0, 1, 5], []), (6, [0, 1, 5], []), (7, [0, 1, 5], []), (10, [1], []), (100000, [1], []), (100001, [0, 1, 5], []), (99999, [4], [])], none, [], []⟩
noncomputable def L27 : List (LoopS (Int × Unit)) := [⟨5, ⟨[(0, (.pv (.slice Y103))), (1, (.pv (.int .i64))), (5, (.pv (.int .i64)))], []⟩, fun κ => F27_R5 (fun y => κ.exit 0 (SSh.mk' ⟨[(1, (.pv (.int .i64)))], []⟩ y)) (fun y => κ.ret (SSh.mk' ⟨[(4, (.pv (.int .i64)))], []⟩ y))⟩]
theorem L27_5 : RoundEq E27 L27 L27[0] (nthLoop (codeOf Tryz.f27) 0) := fun κ N x => by kernel_rfl
theorem C27_ok : QuietOk Tryz.prog 27 C27 := tQ E27 L27 [nthLoop (codeOf Tryz.f27) 0] Tryz.func27 ty_ok (.cons C68_ok .nil) (.cons L27[0] (by kernel_rfl) L27_5 .nil)
noncomputable def F118 (a0 : D106) (a1 : Int) : Option (Int × Unit) :=
 (cond (decide ((IntKind.wrap IntKind.i64 (a1 - (((List.length a0.1) : Nat) : Int))) < (0 : Int)))
 (some ((-(1 : Int)), ()))
 (Option.bind (F49 a0.2.2.2.1 (IntKind.wrap IntKind.i64 (a1 - (((List.length a0.1) : Nat) : Int)))) fun y1 =>
 (cond (decide (y1.1 < (0 : Int)))
 (some ((-(1 : Int)), ()))
 (some (y1.1, ())))))
noncomputable def C118 : Fun := ⟨[(.ro Y106), (.ro (.int .i64))], [((.int .i64), .z)], fun z => F118 z.1 z.2.1⟩
noncomputable def E118 : Env := ⟨19, tyTab tys, oneTab ones, fnTab [(49, C49)], false, [], [(4, [1, 2], []), (7, [1], []), (99999, [4], [])], none, [], []⟩
noncomputable def L118 : List (LoopS (Int × Unit)) := []
theorem C118_ok : QuietOk Tryz.prog 118 C118 := tQ E118 L118 [] Tryz.func118 ty_ok (.cons C49_ok .nil) .nil
noncomputable def F69 (a0 : D108) (a1 : Int) : Option (Int × Unit) :=
 (Option.bind (F118 a0.1 a1) fun y0 =>
 (cond (decide (y0.1 < (0 : Int)))
 (some ((-(1 : Int)), ()))
 (Option.bind (F49 a0.2.1 y0.1) fun y2 =>
 (cond (decide (y2.1 < (0 : Int)))
 (some ((-(1 : Int)), ()))
 (some (y2.1, ()))))))
noncomputable def C69 : Fun := ⟨[(.ro Y108), (.ro (.int .i64))], [((.int .i64), .z)], fun z => F69 z.1 z.2.1⟩
noncomputable def E69 : Env := ⟨18, tyTab tys, oneTab ones, fnTab [(49, C49), (118, C118)], false, [], [(4, [1, 2], []), (7, [1], []), (99999, [4], [])], none, [], []⟩
noncomputable def L69 : List (LoopS (Int × Unit)) := []
theorem C69_ok : QuietOk Tryz.prog 69 C69 := tQ E69 L69 [] Tryz.func69 ty_ok (.cons C49_ok (.cons C118_ok .nil)) .nil
noncomputable def F28_R5 (e0_0 : Int × Unit → Option (Int × Unit)) (er_1 : Int × Unit → Option (Int × Unit)) (rec : List (D108) × Int × Int × Unit → Option (Int × Unit)) (x3 : List (D108) × Int × Int × Unit) : Option (Int × Unit) :=
 (cond (decide (x3.2.2.1 < (((List.length x3.1) : Nat) : Int)))
 (gd (decide ((0 : Int) ≤ x3.2.2.1))
 (Option.bind x3.1[(Int.toNat x3.2.2.1)]? fun y6 =>
 (Option.bind (F69 y6 x3.2.1) fun y7 =>
 (cond (decide (y7.1 < (0 : Int)))
 (er_1 ((-(1 : Int)), ()))
 (rec (x3.1, y7.1, (IntKind.wrap IntKind.i64 (x3.2.2.1 + (1 : Int))), ()))))))
 (e0_0 (x3.2.1, ())))
noncomputable def F28 (a0 : List (D108)) (a1 : Int) : Option (Int × Unit) :=
 (cond (decide ((IntKind.wrap IntKind.i64 (a1 - (((List.length a0) : Nat) : Int))) < (0 : Int)))
 (some ((-(1 : Int)), ()))
 (iter (F28_R5
 (fun y8 =>
 (some (y8.1, ())))
 (fun y9 =>
 (some (y9.1, ())))) fuel (a0, (IntKind.wrap IntKind.i64 (a1 - (((List.length a0) : Nat) : Int))), (0 : Int), ())))
noncomputable def C28 : Fun := ⟨[(.ro (.slice Y108)), (.ro (.int .i64))], [((.int .i64), .z)], fun z => F28 z.1 z.2.1⟩
noncomputable def E28 : Env := ⟨27, tyTab tys, oneTab ones, fnTab [(69, C69)], false, [], [(4, [0, 1], []), (5, [0, 1, 5], []), (6, [0, 1, 5], []), (7, [0, 1, 5], []), (10, [1], []), (100000, [1], []), (100001, [0, 1, 5], []), (99999, [4], [])], none, [], []⟩
noncomputable def L28 : List (LoopS (Int × Unit)) := [⟨5, ⟨[(0, (.pv (.slice Y108))), (1, (.pv (.int .i64))), (5, (.pv (.int .i64)))], []⟩, fun κ => F28_R5 (fun y => κ.exit 0 (SSh.mk' ⟨[(1, (.pv (.int .i64)))], []⟩ y)) (fun y => κ.ret (SSh.mk' ⟨[(4, (.pv (.int .i64)))], []⟩ y))⟩]
theorem L28_5 : RoundEq E28 L28 L28[0] (nthLoop (codeOf Tryz.f28) 0) := fun κ N x => by kernel_rfl
theorem C28_ok : QuietOk Tryz.prog 28 C28 := tQ E28 L28 [nthLoop (codeOf Tryz.f28) 0] Tryz.func28 ty_ok (.cons C69_ok .nil) (.cons L28[0] (by kernel_rfl) L28_5 .nil)
noncomputable def F6 (a0 : D25) (a1 : Int) : Option (Int × Unit) :=
 (Option.bind (F27 a0.2.2.1 a1) fun y0 =>
 (cond (decide (y0.1 < (0 : Int)))
 (some ((-(1 : Int)), ()))
 (Option.bind (F28 a0.2.2.2.1 y0.1) fun y2 =>
 (cond (decide (y2.1 < (0 : Int)))
 (some ((-(1 : Int)), ()))
 (some (y2.1, ()))))))
noncomputable def C6 : Fun := ⟨[(.ro Y25), (.ro (.int .i64))], [((.int .i64), .z)], fun z => F6 z.1 z.2.1⟩
noncomputable def E6 : Env := ⟨18, tyTab tys, oneTab ones, fnTab [(27, C27), (28, C28)], false, [], [(4, [1, 2], []), (7, [1], []), (99999, [4], [])], none, [], []⟩
noncomputable def L6 : List (LoopS (Int × Unit)) := []
theorem C6_ok : QuietOk Tryz.prog 6 C6 := tQ E6 L6 [] Tryz.func6 ty_ok (.cons C27_ok (.cons C28_ok .nil)) .nil
noncomputable def F5_R5 (e0_0 : Int × Unit → Option (Int × Unit)) (er_1 : Int × Unit → Option (Int × Unit)) (rec : List (D25) × Int × Int × Unit → Option (Int × Unit)) (x3 : List (D25) × Int × Int × Unit) : Option (Int × Unit) :=
 (cond (decide (x3.2.2.1 < (((List.length x3.1) : Nat) : Int)))
 (gd (decide ((0 : Int) ≤ x3.2.2.1))
 (Option.bind x3.1[(Int.toNat x3.2.2.1)]? fun y6 =>
 (Option.bind (F6 y6 x3.2.1) fun y7 =>
 (cond (decide (y7.1 < (0 : Int)))
 (er_1 ((-(1 : Int)), ()))
 (rec (x3.1, y7.1, (IntKind.wrap IntKind.i64 (x3.2.2.1 + (1 : Int))), ()))))))
 (e0_0 (x3.2.1, ())))
noncomputable def F5 (a0 : List (D25)) (a1 : Int) : Option (Int × Unit) :=
 (cond (decide ((IntKind.wrap IntKind.i64 (a1 - (((List.length a0) : Nat) : Int))) < (0 : Int)))
 (some ((-(1 : Int)), ()))
 (iter (F5_R5
 (fun y8 =>
 (some (y8.1, ())))
 (fun y9 =>
 (some (y9.1, ())))) fuel (a0, (IntKind.wrap IntKind.i64 (a1 - (((List.length a0) : Nat) : Int))), (0 : Int), ())))
noncomputable def C5 : Fun := ⟨[(.ro (.slice Y25)), (.ro (.int .i64))], [((.int .i64), .z)], fun z => F5 z.1 z.2.1⟩
noncomputable def E5 : Env := ⟨27, tyTab tys, oneTab ones, fnTab [(6, C6)], false, [], [(4, [0, 1], []), (5, [0, 1, 5], []), (6, [0, 1, 5], []), (7, [0, 1, 5], []), (10, [1], []), (100000, [1], []), (100001, [0, 1, 5], []), (99999, [4], [])], none, [], []⟩
noncomputable def L5 : List (LoopS (Int × Unit)) := [⟨5, ⟨[(0, (.pv (.slice Y25))), (1, (.pv (.int .i64))), (5, (.pv (.int .i64)))], []⟩, fun κ => F5_R5 (fun y => κ.exit 0 (SSh.mk' ⟨[(1, (.pv (.int .i64)))], []⟩ y)) (fun y => κ.ret (SSh.mk' ⟨[(4, (.pv (.int .i64)))], []⟩ y))⟩]
theorem L5_5 : RoundEq E5 L5 L5[0] (nthLoop (codeOf Tryz.f5) 0) := fun κ N x => by kernel_rfl
theorem C5_ok : QuietOk Tryz.prog 5 C5 := tQ E5 L5 [nthLoop (codeOf Tryz.f5) 0] Tryz.func5 ty_ok (.cons C6_ok .nil) (.cons L5[0] (by kernel_rfl) L5_5 .nil)
noncomputable def F70 (a0 : Int) (a1 : Int) (a2 : Int) : Option (Bool × Unit) :=
 (cond (decide (a1 ≤ a0))
 (some ((decide (a0 ≤ a2)), ()))
 (some (false, ())))
noncomputable def C70 : Fun := ⟨[(.ro (.int .i64)), (.ro (.int .i64)), (.ro (.int .i64))], [(.bool, .z)], fun z => F70 z.1 z.2.1 z.2.2.1⟩
noncomputable def E70 : Env := ⟨15, tyTab tys, oneTab ones, fnTab [], false, [], [(99999, [6], [])], none, [], []⟩
noncomputable def L70 : List (LoopS (Bool × Unit)) := []
theorem C70_ok : QuietOk Tryz.prog 70 C70 := tQ E70 L70 [] Tryz.func70 ty_ok .nil .nil
noncomputable def F222 (a0 : Int) : Option (Bool × Unit) :=
 (cond (decide (a0 ≥ (97 : Int)))
 (cond (decide (a0 ≤ (122 : Int)))
 (some (true, ()))
 (cond (decide (a0 ≥ (65 : Int)))
 (cond (decide (a0 ≤ (90 : Int)))
 (some (true, ()))
 (some ((a0 == (95 : Int)), ())))
 (some ((a0 == (95 : Int)), ()))))
 (cond (decide (a0 ≥ (65 : Int)))
 (cond (decide (a0 ≤ (90 : Int)))
 (some (true, ()))
 (some ((a0 == (95 : Int)), ())))
 (some ((a0 == (95 : Int)), ()))))
noncomputable def C222 : Fun := ⟨[(.ro (.int .u8))], [(.bool, .z)], fun z => F222 z.1⟩
noncomputable def E222 : Env := ⟨21, tyTab tys, oneTab ones, fnTab [], false, [], [(99999, [2], [])], none, [], []⟩
noncomputable def L222 : List (LoopS (Bool × Unit)) := []
theorem C222_ok : QuietOk Tryz.prog 222 C222 := tQ E222 L222 [] Tryz.func222 ty_ok .nil .nil
noncomputable def F223 (a0 : Int) : Option (Bool × Unit) :=
 (cond (decide (a0 ≥ (48 : Int)))
 (some ((decide (a0 ≤ (57 : Int))), ()))
 (some (false, ())))
noncomputable def C223 : Fun := ⟨[(.ro (.int .u8))], [(.bool, .z)], fun z => F223 z.1⟩
noncomputable def E223 : Env := ⟨9, tyTab tys, oneTab ones, fnTab [], false, [], [(99999, [2], [])], none, [], []⟩
noncomputable def L223 : List (LoopS (Bool × Unit)) := []
theorem C223_ok : QuietOk Tryz.prog 223 C223 := tQ E223 L223 [] Tryz.func223 ty_ok .nil .nil
noncomputable def F182_R4 (e0_0 : Unit → Option (Bool × Unit)) (er_1 : Bool × Unit → Option (Bool × Unit)) (rec : List UInt8 × Int × Unit → Option (Bool × Unit)) (x5 : List UInt8 × Int × Unit) : Option (Bool × Unit) :=
 (cond (decide (x5.2.1 < (((List.length x5.1) : Nat) : Int)))
 (let j12 : List UInt8 × Int × Unit → Option (Bool × Unit) := fun (y13 : List UInt8 × Int × Unit) =>
 (rec (y13.1, (IntKind.wrap IntKind.i64 (y13.2.1 + (1 : Int))), ()))
 (gd (decide ((0 : Int) ≤ x5.2.1))
 (Option.bind x5.1[(Int.toNat x5.2.1)]? fun y8 =>
 (Option.bind (F222 (((UInt8.toNat y8) : Nat) : Int)) fun y9 =>
 (cond (!y9.1)
 (gd (decide ((0 : Int) ≤ x5.2.1))
 (Option.bind x5.1[(Int.toNat x5.2.1)]? fun y10 =>
 (Option.bind (F223 (((UInt8.toNat y10) : Nat) : Int)) fun y11 =>
 (cond (!y11.1)
 (er_1 (false, ()))
 (j12 (x5.1, x5.2.1, ()))))))
 (j12 (x5.1, x5.2.1, ())))))))
 (e0_0 (())))
noncomputable def F182 (a0 : List UInt8) : Option (Bool × Unit) :=
 (cond (decide ((((List.length a0) : Nat) : Int) < (1 : Int)))
 (some (false, ()))
 (cond (decide ((((List.length a0) : Nat) : Int) > (40 : Int)))
 (some (false, ()))
 (Option.bind a0[(Int.toNat (0 : Int))]? fun y1 =>
 (Option.bind (F222 (((UInt8.toNat y1) : Nat) : Int)) fun y2 =>
 (cond (!y2.1)
 (some (false, ()))
 (iter (F182_R4
 (fun y14 =>
 (some (true, ())))
 (fun y15 =>
 (some (y15.1, ())))) fuel (a0, (1 : Int), ())))))))
noncomputable def C182 : Fun := ⟨[(.ro .str)], [(.bool, .z)], fun z => F182 z.1⟩
noncomputable def E182 : Env := ⟨36, tyTab tys, oneTab ones, fnTab [(222, C222), (223, C223)], false, [], [(3, [0], []), (4, [0, 3], []), (5, [0, 3], []), (6, [0, 3], []), (8, [], []), (100000, [], []), (100001, [0, 3], []), (99999, [2], [])], none, [], []⟩
noncomputable def L182 : List (LoopS (Bool × Unit)) := [⟨4, ⟨[(0, (.pv .str)), (3, (.pv (.int .i64)))], []⟩, fun κ => F182_R4 (fun y => κ.exit 0 (SSh.mk' ⟨[], []⟩ y)) (fun y => κ.ret (SSh.mk' ⟨[(2, (.pv .bool))], []⟩ y))⟩]
theorem L182_4 : RoundEq E182 L182 L182[0] (nthLoop (codeOf Tryz.f182) 0) := fun κ N x => by kernel_rfl
theorem C182_ok : QuietOk Tryz.prog 182 C182 := tQ E182 L182 [nthLoop (codeOf Tryz.f182) 0] Tryz.func182 ty_ok (.cons C222_ok (.cons C223_ok .nil)) (.cons L182[0] (by kernel_rfl) L182_4 .nil)
noncomputable def F138 (a0 : List UInt8) : Option (Bool × Unit) :=
 (Option.bind (F182 a0) fun y0 =>
 (some (y0.1, ())))
noncomputable def C138 : Fun := ⟨[(.ro .str)], [(.bool, .z)], fun z => F138 z.1⟩
noncomputable def E138 : Env := ⟨5, tyTab tys, oneTab ones, fnTab [(182, C182)], false, [], [(99999, [2], [])], none, [], []⟩
noncomputable def L138 : List (LoopS (Bool × Unit)) := []
theorem C138_ok : QuietOk Tryz.prog 138 C138 := tQ E138 L138 [] Tryz.func138 ty_ok (.cons C182_ok .nil) .nil
noncomputable def F94 (a0 : List UInt8) : Option (Bool × Unit) :=
 (Option.bind (F138 a0) fun y0 =>
 (cond y0.1
 (some ((decide ((((List.length a0) : Nat) : Int) ≤ (12 : Int))), ()))
 (some (false, ()))))
noncomputable def C94 : Fun := ⟨[(.ro .str)], [(.bool, .z)], fun z => F94 z.1⟩
noncomputable def E94 : Env := ⟨10, tyTab tys, oneTab ones, fnTab [(138, C138)], false, [], [(99999, [2], [])], none, [], []⟩
noncomputable def L94 : List (LoopS (Bool × Unit)) := []
theorem C94_ok : QuietOk Tryz.prog 94 C94 := tQ E94 L94 [] Tryz.func94 ty_ok (.cons C138_ok .nil) .nil
noncomputable def F139_R4 (e0_0 : List UInt8 × Int × List (List UInt8) × Unit → Option (List (List UInt8) × Unit)) (rec : List UInt8 × Int × Int × Int × List (List UInt8) × Unit → Option (List (List UInt8) × Unit)) (x2 : List UInt8 × Int × Int × Int × List (List UInt8) × Unit) : Option (List (List UInt8) × Unit) :=
 (cond (decide (x2.2.2.2.1 < (((List.length x2.1) : Nat) : Int)))
 (let j6 : List UInt8 × Int × Int × Int × List (List UInt8) × Unit → Option (List (List UInt8) × Unit) := fun (y7 : List UInt8 × Int × Int × Int × List (List UInt8) × Unit) =>
 (rec (y7.1, y7.2.1, y7.2.2.1, (IntKind.wrap IntKind.i64 (y7.2.2.2.1 + (1 : Int))), y7.2.2.2.2.1, ()))
 (gd (decide ((0 : Int) ≤ x2.2.2.2.1))
 (Option.bind x2.1[(Int.toNat x2.2.2.2.1)]? fun y5 =>
 (cond ((((UInt8.toNat y5) : Nat) : Int) == x2.2.1)
 (gd (decide ((0 : Int) ≤ x2.2.2.2.1))
 (gd (decide (x2.2.2.2.1 ≤ (((List.length x2.1) : Nat) : Int)))
 (gd (decide ((0 : Int) ≤ x2.2.2.1))
 (gd (decide (x2.2.2.1 ≤ (((Int.toNat x2.2.2.2.1) : Nat) : Int)))
 (gd (decide (((List.length x2.2.2.2.2.1) + (List.length [(List.drop (Int.toNat x2.2.2.1) (List.take (Int.toNat x2.2.2.2.1) x2.1))])) ≤ lim))
 (j6 (x2.1, x2.2.1, (IntKind.wrap IntKind.i64 (x2.2.2.2.1 + (1 : Int))), x2.2.2.2.1, (x2.2.2.2.2.1 ++ [(List.drop (Int.toNat x2.2.2.1) (List.take (Int.toNat x2.2.2.2.1) x2.1))]), ())))))))
 (j6 (x2.1, x2.2.1, x2.2.2.1, x2.2.2.2.1, x2.2.2.2.2.1, ()))))))
 (e0_0 (x2.1, x2.2.2.1, x2.2.2.2.2.1, ())))
noncomputable def F139 (a0 : List UInt8) (a1 : Int) : Option (List (List UInt8) × Unit) :=
 (iter (F139_R4
 (fun y8 =>
 (gd (decide ((((List.length y8.1) : Nat) : Int) ≤ (((List.length y8.1) : Nat) : Int)))
 (gd (decide ((0 : Int) ≤ y8.2.1))
 (gd (decide (y8.2.1 ≤ (((Int.toNat (((List.length y8.1) : Nat) : Int)) : Nat) : Int)))
 (gd (decide (((List.length y8.2.2.1) + (List.length [(List.drop (Int.toNat y8.2.1) (List.take (Int.toNat (((List.length y8.1) : Nat) : Int)) y8.1))])) ≤ lim))
 (some ((y8.2.2.1 ++ [(List.drop (Int.toNat y8.2.1) (List.take (Int.toNat (((List.length y8.1) : Nat) : Int)) y8.1))]), ())))))))) fuel (a0, a1, (0 : Int), (0 : Int), [], ()))
noncomputable def C139 : Fun := ⟨[(.ro .str), (.ro (.int .u8))], [((.slice .str), .z)], fun z => F139 z.1 z.2.1⟩
noncomputable def E139 : Env := ⟨35, tyTab tys, oneTab ones, fnTab [], false, [], [(4, [0, 1, 5, 6, 7], []), (5, [0, 1, 5, 6, 7], []), (6, [0, 1, 5, 6, 7], []), (9, [0, 5, 6], []), (100000, [0, 5, 6], []), (100001, [0, 1, 5, 6, 7], []), (99999, [4], [])], none, [], []⟩
noncomputable def L139 : List (LoopS (List (List UInt8) × Unit)) := [⟨4, ⟨[(0, (.pv .str)), (1, (.pv (.int .u8))), (5, (.ref (.slice .str) 64 [])), (6, (.pv (.int .i64))), (7, (.pv (.int .i64)))], [(64, (.data false (.slice .str) (.own .z)))]⟩, fun κ => F139_R4 (fun y => κ.exit 0 (SSh.mk' ⟨[(0, (.pv .str)), (5, (.ref (.slice .str) 64 [])), (6, (.pv (.int .i64)))], [(64, (.data false (.slice .str) (.own .z)))]⟩ y))⟩]
theorem L139_4 : RoundEq E139 L139 L139[0] (nthLoop (codeOf Tryz.f139) 0) := fun κ N x => by kernel_rfl
theorem C139_ok : QuietOk Tryz.prog 139 C139 := tQ E139 L139 [nthLoop (codeOf Tryz.f139) 0] Tryz.func139 ty_ok .nil (.cons L139[0] (by kernel_rfl) L139_4 .nil)
noncomputable def F95_R7 (e0_0 : Unit → Option (Bool × Unit)) (er_1 : Bool × Unit → Option (Bool × Unit)) (rec : List (List UInt8) × Int × Unit → Option (Bool × Unit)) (x5 : List (List UInt8) × Int × Unit) : Option (Bool × Unit) :=
 (cond (decide (x5.2.1 < (((List.length x5.1) : Nat) : Int)))
 (gd (decide ((0 : Int) ≤ x5.2.1))
 (Option.bind x5.1[(Int.toNat x5.2.1)]? fun y8 =>
 (Option.bind (F94 y8) fun y9 =>
 (cond (!y9.1)
 (er_1 (false, ()))
 (rec (x5.1, (IntKind.wrap IntKind.i64 (x5.2.1 + (1 : Int))), ()))))))
 (e0_0 (())))
noncomputable def F95 (a0 : List UInt8) : Option (Bool × Unit) :=
 (cond (decide ((((List.length a0) : Nat) : Int) > (65536 : Int)))
 (some (false, ()))
 (Option.bind (F139 a0 (46 : Int)) fun y1 =>
 (cond (decide ((((List.length y1.1) : Nat) : Int) > (4 : Int)))
 (some (false, ()))
 (cond (decide ((((List.length a0) : Nat) : Int) > (50 : Int)))
 (some (false, ()))
 (iter (F95_R7
 (fun y10 =>
 (some (true, ())))
 (fun y11 =>
 (some (y11.1, ())))) fuel (y1.1, (0 : Int), ()))))))
noncomputable def C95 : Fun := ⟨[(.ro .str)], [(.bool, .z)], fun z => F95 z.1⟩
noncomputable def E95 : Env := ⟨30, tyTab tys, oneTab ones, fnTab [(94, C94), (139, C139)], false, [], [(3, [0], []), (6, [3], []), (7, [3, 4], []), (8, [3, 4], []), (9, [3, 4], []), (11, [], []), (100000, [], []), (100001, [3, 4], []), (99999, [2], [])], none, [], []⟩
noncomputable def L95 : List (LoopS (Bool × Unit)) := [⟨7, ⟨[(3, (.pv (.slice .str))), (4, (.pv (.int .i64)))], []⟩, fun κ => F95_R7 (fun y => κ.exit 0 (SSh.mk' ⟨[], []⟩ y)) (fun y => κ.ret (SSh.mk' ⟨[(2, (.pv .bool))], []⟩ y))⟩]
theorem L95_7 : RoundEq E95 L95 L95[0] (nthLoop (codeOf Tryz.f95) 0) := fun κ N x => by kernel_rfl
theorem C95_ok : QuietOk Tryz.prog 95 C95 := tQ E95 L95 [nthLoop (codeOf Tryz.f95) 0] Tryz.func95 ty_ok (.cons C94_ok (.cons C139_ok .nil)) (.cons L95[0] (by kernel_rfl) L95_7 .nil)
noncomputable def F228_R3 (e0_0 : Int × Unit → Option (Int × Unit)) (rec : List UInt8 × Int × Int × Unit → Option (Int × Unit)) (x2 : List UInt8 × Int × Int × Unit) : Option (Int × Unit) :=
 (cond (decide (x2.2.2.1 < (((List.length x2.1) : Nat) : Int)))
 (gd (decide ((0 : Int) ≤ x2.2.2.1))
 (Option.bind x2.1[(Int.toNat x2.2.2.1)]? fun y4 =>
 (rec (x2.1, (IntKind.wrap IntKind.i64 ((IntKind.wrap IntKind.i64 (x2.2.1 * (256 : Int))) + (IntKind.wrap IntKind.i64 (((UInt8.toNat y4) : Nat) : Int)))), (IntKind.wrap IntKind.i64 (x2.2.2.1 + (1 : Int))), ()))))
 (e0_0 (x2.2.1, ())))
noncomputable def F228 (a0 : List UInt8) : Option (Int × Unit) :=
 (iter (F228_R3
 (fun y5 =>
 (some (y5.1, ())))) fuel (a0, (0 : Int), (0 : Int), ()))
noncomputable def C228 : Fun := ⟨[(.ro .str)], [((.int .i64), .z)], fun z => F228 z.1⟩
noncomputable def E228 : Env := ⟨19, tyTab tys, oneTab ones, fnTab [], false, [], [(3, [0, 3, 4], []), (5, [0, 3, 4], []), (6, [3], []), (100000, [3], []), (100001, [0, 3, 4], []), (99999, [2], [])], none, [], []⟩
noncomputable def L228 : List (LoopS (Int × Unit)) := [⟨3, ⟨[(0, (.pv .str)), (3, (.pv (.int .i64))), (4, (.pv (.int .i64)))], []⟩, fun κ => F228_R3 (fun y => κ.exit 0 (SSh.mk' ⟨[(3, (.pv (.int .i64)))], []⟩ y))⟩]
theorem L228_3 : RoundEq E228 L228 L228[0] (nthLoop (codeOf Tryz.f228) 0) := fun κ N x => by kernel_rfl
theorem C228_ok : QuietOk Tryz.prog 228 C228 := tQ E228 L228 [nthLoop (codeOf Tryz.f228) 0] Tryz.func228 ty_ok .nil (.cons L228[0] (by kernel_rfl) L228_3 .nil)
noncomputable def F187 (a0 : List UInt8) : Option (D84 × List UInt8 × Bool × Unit) :=
 (cond ((((List.length a0) : Nat) : Int) == (0 : Int))
 (some (((0 : Int), ((0 : Int), ([], ()))), ([], (false, ()))))
 (Option.bind a0[(Int.toNat (0 : Int))]? fun y1 =>
 (let j13 : List UInt8 × Int × D84 × D84 × Unit → Option (D84 × List UInt8 × Bool × Unit) := fun (y14 : List UInt8 × Int × D84 × D84 × Unit) =>
 (cond (decide ((((List.length y14.1) : Nat) : Int) < (IntKind.wrap IntKind.i64 ((1 : Int) + y14.2.1))))
 (some (((0 : Int), ((0 : Int), ([], ()))), ([], (false, ()))))
 (let j21 : List UInt8 × Int × D84 × D84 × Unit → Option (D84 × List UInt8 × Bool × Unit) := fun (y22 : List UInt8 × Int × D84 × D84 × Unit) =>
 (gd (decide ((((List.length y22.1) : Nat) : Int) ≤ (((List.length y22.1) : Nat) : Int)))
 (gd (decide ((0 : Int) ≤ (IntKind.wrap IntKind.i64 ((1 : Int) + y22.2.1))))
 (gd (decide ((IntKind.wrap IntKind.i64 ((1 : Int) + y22.2.1)) ≤ (((Int.toNat (((List.length y22.1) : Nat) : Int)) : Nat) : Int)))
 (some (y22.2.2.2.1, ((List.drop (Int.toNat (IntKind.wrap IntKind.i64 ((1 : Int) + y22.2.1))) (List.take (Int.toNat (((List.length y22.1) : Nat) : Int)) y22.1)), (true, ())))))))
 (cond (y14.2.1 == (1 : Int))
 (Option.bind y14.1[(Int.toNat (1 : Int))]? fun y17 =>
 (j21 (y14.1, y14.2.1, y14.2.2.1, (y14.2.2.2.1.1, ((IntKind.wrap IntKind.i64 (((UInt8.toNat y17) : Nat) : Int)), y14.2.2.2.1.2.2)), ())))
 (Option.bind y14.1[(Int.toNat (1 : Int))]? fun y19 =>
 (cond (decide ((((UInt8.toNat y19) : Nat) : Int) > (127 : Int)))
 (some (((0 : Int), ((0 : Int), ([], ()))), ([], (false, ()))))
 (gd (decide ((9 : Int) ≤ (((List.length y14.1) : Nat) : Int)))
 (Option.bind (F228 (List.drop (Int.toNat (1 : Int)) (List.take (Int.toNat (9 : Int)) y14.1))) fun y20 =>
 (j21 (y14.1, y14.2.1, y14.2.2.1, (y14.2.2.2.1.1, ((IntKind.wrap IntKind.i64 (y20.1 - (4611686018427387904 : Int))), y14.2.2.2.1.2.2)), ())))))))))
 (cond ((IntKind.wrap IntKind.i64 (((UInt8.toNat y1) : Nat) : Int)) == (0 : Int))
 (gd (decide ((((List.length a0) : Nat) : Int) ≤ (((List.length a0) : Nat) : Int)))
 (gd (decide ((1 : Int) ≤ (((Int.toNat (((List.length a0) : Nat) : Int)) : Nat) : Int)))
 (some (((IntKind.wrap IntKind.i64 (((UInt8.toNat y1) : Nat) : Int)), ((0 : Int), ([], ()))), ((List.drop (Int.toNat (1 : Int)) (List.take (Int.toNat (((List.length a0) : Nat) : Int)) a0)), (true, ()))))))
 (cond ((IntKind.wrap IntKind.i64 (((UInt8.toNat y1) : Nat) : Int)) == (1 : Int))
 (j13 (a0, (1 : Int), ((0 : Int), ((0 : Int), ([], ()))), ((IntKind.wrap IntKind.i64 (((UInt8.toNat y1) : Nat) : Int)), ((0 : Int), ([], ()))), ()))
 (cond ((IntKind.wrap IntKind.i64 (((UInt8.toNat y1) : Nat) : Int)) == (2 : Int))
 (j13 (a0, (8 : Int), ((0 : Int), ((0 : Int), ([], ()))), ((IntKind.wrap IntKind.i64 (((UInt8.toNat y1) : Nat) : Int)), ((0 : Int), ([], ()))), ()))
 (cond ((IntKind.wrap IntKind.i64 (((UInt8.toNat y1) : Nat) : Int)) == (3 : Int))
 (cond ((IntKind.wrap IntKind.i64 (((UInt8.toNat y1) : Nat) : Int)) == (3 : Int))
 (cond (decide ((((List.length a0) : Nat) : Int) < (3 : Int)))
 (some (((0 : Int), ((0 : Int), ([], ()))), ([], (false, ()))))
 (gd (decide ((3 : Int) ≤ (((List.length a0) : Nat) : Int)))
 (Option.bind (F228 (List.drop (Int.toNat (1 : Int)) (List.take (Int.toNat (3 : Int)) a0))) fun y5 =>
 (cond (decide ((((List.length a0) : Nat) : Int) < (IntKind.wrap IntKind.i64 ((3 : Int) + y5.1))))
 (some (((0 : Int), ((0 : Int), ([], ()))), ([], (false, ()))))
 (gd (decide ((0 : Int) ≤ (IntKind.wrap IntKind.i64 ((3 : Int) + y5.1))))
 (gd (decide ((IntKind.wrap IntKind.i64 ((3 : Int) + y5.1)) ≤ (((List.length a0) : Nat) : Int)))
 (gd (decide ((3 : Int) ≤ (((Int.toNat (IntKind.wrap IntKind.i64 ((3 : Int) + y5.1))) : Nat) : Int)))
 (gd (decide ((((List.length a0) : Nat) : Int) ≤ (((List.length a0) : Nat) : Int)))
 (gd (decide ((0 : Int) ≤ (IntKind.wrap IntKind.i64 ((3 : Int) + y5.1))))
 (gd (decide ((IntKind.wrap IntKind.i64 ((3 : Int) + y5.1)) ≤ (((Int.toNat (((List.length a0) : Nat) : Int)) : Nat) : Int)))
 (some (((IntKind.wrap IntKind.i64 (((UInt8.toNat y1) : Nat) : Int)), ((0 : Int), ((List.drop (Int.toNat (3 : Int)) (List.take (Int.toNat (IntKind.wrap IntKind.i64 ((3 : Int) + y5.1))) a0)), ()))), ((List.drop (Int.toNat (IntKind.wrap IntKind.i64 ((3 : Int) + y5.1))) (List.take (Int.toNat (((List.length a0) : Nat) : Int)) a0)), (true, ()))))))))))))))
 (some (((0 : Int), ((0 : Int), ([], ()))), ([], (false, ())))))
 (cond ((IntKind.wrap IntKind.i64 (((UInt8.toNat y1) : Nat) : Int)) == (4 : Int))
 (cond ((IntKind.wrap IntKind.i64 (((UInt8.toNat y1) : Nat) : Int)) == (4 : Int))
 (cond (decide ((((List.length a0) : Nat) : Int) < (3 : Int)))
 (some (((0 : Int), ((0 : Int), ([], ()))), ([], (false, ()))))
 (gd (decide ((3 : Int) ≤ (((List.length a0) : Nat) : Int)))
 (Option.bind (F228 (List.drop (Int.toNat (1 : Int)) (List.take (Int.toNat (3 : Int)) a0))) fun y8 =>
 (cond (decide ((((List.length a0) : Nat) : Int) < (IntKind.wrap IntKind.i64 ((3 : Int) + y8.1))))
 (some (((0 : Int), ((0 : Int), ([], ()))), ([], (false, ()))))
 (gd (decide ((0 : Int) ≤ (IntKind.wrap IntKind.i64 ((3 : Int) + y8.1))))
 (gd (decide ((IntKind.wrap IntKind.i64 ((3 : Int) + y8.1)) ≤ (((List.length a0) : Nat) : Int)))
 (gd (decide ((3 : Int) ≤ (((Int.toNat (IntKind.wrap IntKind.i64 ((3 : Int) + y8.1))) : Nat) : Int)))
 (gd (decide ((((List.length a0) : Nat) : Int) ≤ (((List.length a0) : Nat) : Int)))
 (gd (decide ((0 : Int) ≤ (IntKind.wrap IntKind.i64 ((3 : Int) + y8.1))))
 (gd (decide ((IntKind.wrap IntKind.i64 ((3 : Int) + y8.1)) ≤ (((Int.toNat (((List.length a0) : Nat) : Int)) : Nat) : Int)))
 (some (((IntKind.wrap IntKind.i64 (((UInt8.toNat y1) : Nat) : Int)), ((0 : Int), ((List.drop (Int.toNat (3 : Int)) (List.take (Int.toNat (IntKind.wrap IntKind.i64 ((3 : Int) + y8.1))) a0)), ()))), ((List.drop (Int.toNat (IntKind.wrap IntKind.i64 ((3 : Int) + y8.1))) (List.take (Int.toNat (((List.length a0) : Nat) : Int)) a0)), (true, ()))))))))))))))
 (some (((0 : Int), ((0 : Int), ([], ()))), ([], (false, ())))))
 (cond ((IntKind.wrap IntKind.i64 (((UInt8.toNat y1) : Nat) : Int)) == (5 : Int))
 (cond (decide ((((List.length a0) : Nat) : Int) < (3 : Int)))
 (some (((0 : Int), ((0 : Int), ([], ()))), ([], (false, ()))))
 (gd (decide ((3 : Int) ≤ (((List.length a0) : Nat) : Int)))
 (Option.bind (F228 (List.drop (Int.toNat (1 : Int)) (List.take (Int.toNat (3 : Int)) a0))) fun y11 =>
 (cond (decide ((((List.length a0) : Nat) : Int) < (IntKind.wrap IntKind.i64 ((3 : Int) + y11.1))))
 (some (((0 : Int), ((0 : Int), ([], ()))), ([], (false, ()))))
 (gd (decide ((0 : Int) ≤ (IntKind.wrap IntKind.i64 ((3 : Int) + y11.1))))
 (gd (decide ((IntKind.wrap IntKind.i64 ((3 : Int) + y11.1)) ≤ (((List.length a0) : Nat) : Int)))
 (gd (decide ((3 : Int) ≤ (((Int.toNat (IntKind.wrap IntKind.i64 ((3 : Int) + y11.1))) : Nat) : Int)))
 (gd (decide ((((List.length a0) : Nat) : Int) ≤ (((List.length a0) : Nat) : Int)))
 (gd (decide ((0 : Int) ≤ (IntKind.wrap IntKind.i64 ((3 : Int) + y11.1))))
 (gd (decide ((IntKind.wrap IntKind.i64 ((3 : Int) + y11.1)) ≤ (((Int.toNat (((List.length a0) : Nat) : Int)) : Nat) : Int)))
 (some (((IntKind.wrap IntKind.i64 (((UInt8.toNat y1) : Nat) : Int)), ((0 : Int), ((List.drop (Int.toNat (3 : Int)) (List.take (Int.toNat (IntKind.wrap IntKind.i64 ((3 : Int) + y11.1))) a0)), ()))), ((List.drop (Int.toNat (IntKind.wrap IntKind.i64 ((3 : Int) + y11.1))) (List.take (Int.toNat (((List.length a0) : Nat) : Int)) a0)), (true, ()))))))))))))))
 (some (((0 : Int), ((0 : Int), ([], ()))), ([], (false, ())))))))))))))
noncomputable def C187 : Fun := ⟨[(.ro .str)], [(Y84, .z), (.str, .z), (.bool, .z)], fun z => F187 z.1⟩
noncomputable def E187 : Env := ⟨81, tyTab tys, oneTab ones, fnTab [(228, C228)], false, [], [(3, [0, 2], []), (18, [0, 2, 5], []), (21, [0, 2, 5, 7], []), (23, [0, 2, 5, 6], []), (25, [0, 2, 5, 6], []), (29, [0, 2, 5, 6], []), (30, [0, 2, 5, 6], []), (100000, [0, 2, 5, 6], []), (99999, [2, 3, 4], [])], none, [], []⟩
noncomputable def L187 : List (LoopS (D84 × List UInt8 × Bool × Unit)) := []
theorem C187_ok : QuietOk Tryz.prog 187 C187 := tQ E187 L187 [] Tryz.func187 ty_ok (.cons C228_ok .nil) .nil
noncomputable def F144_R2 (e0_0 : List (D180) × Unit → Option (List (D180) × Bool × Unit)) (er_1 : Bool × List (D180) × Unit → Option (List (D180) × Bool × Unit)) (er_2 : Bool × List (D180) × Unit → Option (List (D180) × Bool × Unit)) (rec : List UInt8 × List (D180) × Unit → Option (List (D180) × Bool × Unit)) (x2 : List UInt8 × List (D180) × Unit) : Option (List (D180) × Bool × Unit) :=
 (cond (decide ((((List.length x2.1) : Nat) : Int) > (0 : Int)))
 (Option.bind x2.1[(Int.toNat (0 : Int))]? fun y4 =>
 (cond (decide ((((List.length x2.1) : Nat) : Int) < (IntKind.wrap IntKind.i64 ((1 : Int) + (IntKind.wrap IntKind.i64 (((UInt8.toNat y4) : Nat) : Int))))))
 (er_1 (false, [], ()))
 (gd (decide ((0 : Int) ≤ (IntKind.wrap IntKind.i64 ((1 : Int) + (IntKind.wrap IntKind.i64 (((UInt8.toNat y4) : Nat) : Int))))))
 (gd (decide ((IntKind.wrap IntKind.i64 ((1 : Int) + (IntKind.wrap IntKind.i64 (((UInt8.toNat y4) : Nat) : Int)))) ≤ (((List.length x2.1) : Nat) : Int)))
 (gd (decide ((1 : Int) ≤ (((Int.toNat (IntKind.wrap IntKind.i64 ((1 : Int) + (IntKind.wrap IntKind.i64 (((UInt8.toNat y4) : Nat) : Int))))) : Nat) : Int)))
 (gd (decide ((((List.length x2.1) : Nat) : Int) ≤ (((List.length x2.1) : Nat) : Int)))
 (gd (decide ((0 : Int) ≤ (IntKind.wrap IntKind.i64 ((1 : Int) + (IntKind.wrap IntKind.i64 (((UInt8.toNat y4) : Nat) : Int))))))
 (gd (decide ((IntKind.wrap IntKind.i64 ((1 : Int) + (IntKind.wrap IntKind.i64 (((UInt8.toNat y4) : Nat) : Int)))) ≤ (((Int.toNat (((List.length x2.1) : Nat) : Int)) : Nat) : Int)))
 (Option.bind (F187 (List.drop (Int.toNat (IntKind.wrap IntKind.i64 ((1 : Int) + (IntKind.wrap IntKind.i64 (((UInt8.toNat y4) : Nat) : Int))))) (List.take (Int.toNat (((List.length x2.1) : Nat) : Int)) x2.1))) fun y6 =>
 (cond (!y6.2.2.1)
 (er_2 (false, [], ()))
 (gd (decide (((List.length x2.2.1) + (List.length [((List.drop (Int.toNat (1 : Int)) (List.take (Int.toNat (IntKind.wrap IntKind.i64 ((1 : Int) + (IntKind.wrap IntKind.i64 (((UInt8.toNat y4) : Nat) : Int))))) x2.1)), (y6.1, ()))])) ≤ lim))
 (rec (y6.2.1, (x2.2.1 ++ [((List.drop (Int.toNat (1 : Int)) (List.take (Int.toNat (IntKind.wrap IntKind.i64 ((1 : Int) + (IntKind.wrap IntKind.i64 (((UInt8.toNat y4) : Nat) : Int))))) x2.1)), (y6.1, ()))]), ())))))))))))))
 (e0_0 (x2.2.1, ())))
noncomputable def F144 (a0 : List UInt8) : Option (List (D180) × Bool × Unit) :=
 (iter (F144_R2
 (fun y8 =>
 (some (y8.1, (true, ()))))
 (fun y9 =>
 (some (y9.2.1, (y9.1, ()))))
 (fun y10 =>
 (some (y10.2.1, (y10.1, ()))))) fuel (a0, [], ()))
noncomputable def C144 : Fun := ⟨[(.ro .str)], [((.slice Y180), .z), (.bool, .z)], fun z => F144 z.1⟩
noncomputable def E144 : Env := ⟨47, tyTab tys, oneTab ones, fnTab [(187, C187)], false, [], [(2, [0, 4], []), (3, [0, 4], []), (6, [0, 4, 5], []), (10, [4, 6, 7, 8], []), (12, [4], []), (100000, [4], []), (100001, [0, 4], []), (99999, [2, 3], [])], none, [], []⟩
noncomputable def L144 : List (LoopS (List (D180) × Bool × Unit)) := [⟨2, ⟨[(0, (.pv .str)), (4, (.ref (.slice Y180) 80 []))], [(80, (.data false (.slice Y180) (.own .z)))]⟩, fun κ => F144_R2 (fun y => κ.exit 0 (SSh.mk' ⟨[(4, (.ref (.slice Y180) 80 []))], [(80, (.data false (.slice Y180) (.own .z)))]⟩ y)) (fun y => κ.ret (SSh.mk' ⟨[(2, (.ref (.slice Y180) 176 [])), (3, (.pv .bool))], [(176, (.data false (.slice Y180) (.own .z)))]⟩ y)) (fun y => κ.ret (SSh.mk' ⟨[(2, (.ref (.slice Y180) 304 [])), (3, (.pv .bool))], [(304, (.data false (.slice Y180) (.own .z)))]⟩ y))⟩]
theorem L144_2 : RoundEq E144 L144 L144[0] (nthLoop (codeOf Tryz.f144) 0) := fun κ N x => by kernel_rfl
theorem C144_ok : QuietOk Tryz.prog 144 C144 := tQ E144 L144 [nthLoop (codeOf Tryz.f144) 0] Tryz.func144 ty_ok (.cons C187_ok .nil) (.cons L144[0] (by kernel_rfl) L144_2 .nil)
noncomputable def F224_R2 (e0_0 : List (D84) × Unit → Option (List (D84) × Bool × Unit)) (er_1 : Bool × List (D84) × Unit → Option (List (D84) × Bool × Unit)) (rec : List UInt8 × List (D84) × Unit → Option (List (D84) × Bool × Unit)) (x2 : List UInt8 × List (D84) × Unit) : Option (List (D84) × Bool × Unit) :=
 (cond (decide ((((List.length x2.1) : Nat) : Int) > (0 : Int)))
 (Option.bind (F187 x2.1) fun y4 =>
 (cond (!y4.2.2.1)
 (er_1 (false, [], ()))
 (gd (decide (((List.length x2.2.1) + (List.length [y4.1])) ≤ lim))
 (rec (y4.2.1, (x2.2.1 ++ [y4.1]), ())))))
 (e0_0 (x2.2.1, ())))
noncomputable def F224 (a0 : List UInt8) : Option (List (D84) × Bool × Unit) :=
 (iter (F224_R2
 (fun y6 =>
 (some (y6.1, (true, ()))))
 (fun y7 =>
 (some (y7.2.1, (y7.1, ()))))) fuel (a0, [], ()))
noncomputable def C224 : Fun := ⟨[(.ro .str)], [((.slice Y84), .z), (.bool, .z)], fun z => F224 z.1⟩
noncomputable def E224 : Env := ⟨27, tyTab tys, oneTab ones, fnTab [(187, C187)], false, [], [(2, [0, 4], []), (3, [0, 4], []), (6, [4, 5, 6], []), (8, [4], []), (100000, [4], []), (100001, [0, 4], []), (99999, [2, 3], [])], none, [], []⟩
noncomputable def L224 : List (LoopS (List (D84) × Bool × Unit)) := [⟨2, ⟨[(0, (.pv .str)), (4, (.ref (.slice Y84) 64 []))], [(64, (.data false (.slice Y84) (.own .z)))]⟩, fun κ => F224_R2 (fun y => κ.exit 0 (SSh.mk' ⟨[(4, (.ref (.slice Y84) 64 []))], [(64, (.data false (.slice Y84) (.own .z)))]⟩ y)) (fun y => κ.ret (SSh.mk' ⟨[(2, (.ref (.slice Y84) 160 [])), (3, (.pv .bool))], [(160, (.data false (.slice Y84) (.own .z)))]⟩ y))⟩]
theorem L224_2 : RoundEq E224 L224 L224[0] (nthLoop (codeOf Tryz.f224) 0) := fun κ N x => by kernel_rfl
theorem C224_ok : QuietOk Tryz.prog 224 C224 := tQ E224 L224 [nthLoop (codeOf Tryz.f224) 0] Tryz.func224 ty_ok (.cons C187_ok .nil) (.cons L224[0] (by kernel_rfl) L224_2 .nil)
abbrev G183 : Type := (D84) → (Int) → Option (Bool × Unit)
noncomputable def H183 (g : G183) : Fun := ⟨[(.ro Y84), (.ro (.int .i64))], [(.bool, .z)], fun z => g z.1 z.2.1⟩
noncomputable def B183_R15 (g : G183) (e1_0 : Unit → Option (Bool × Unit)) (er_1 : Bool × Unit → Option (Bool × Unit)) (rec : Int × List (D84) × Int × Unit → Option (Bool × Unit)) (x7 : Int × List (D84) × Int × Unit) : Option (Bool × Unit) :=
 (cond (decide (x7.2.2.1 < (((List.length x7.2.1) : Nat) : Int)))
 (gd (decide ((0 : Int) ≤ x7.2.2.1))
 (Option.bind x7.2.1[(Int.toNat x7.2.2.1)]? fun y10 =>
 (Option.bind (g y10 (IntKind.wrap IntKind.i64 (x7.1 - (1 : Int)))) fun y11 =>
 (cond (!y11.1)
 (er_1 (false, ()))
 (rec (x7.1, x7.2.1, (IntKind.wrap IntKind.i64 (x7.2.2.1 + (1 : Int))), ()))))))
 (e1_0 (())))
noncomputable def B183_R25 (g : G183) (e3_0 : Unit → Option (Bool × Unit)) (er_1 : Bool × Unit → Option (Bool × Unit)) (rec : Int × List (D180) × Int × Unit → Option (Bool × Unit)) (x18 : Int × List (D180) × Int × Unit) : Option (Bool × Unit) :=
 (cond (decide (x18.2.2.1 < (((List.length x18.2.1) : Nat) : Int)))
 (let j29 : Int × List (D180) × Int × Unit → Option (Bool × Unit) := fun (y30 : Int × List (D180) × Int × Unit) =>
 (rec (y30.1, y30.2.1, (IntKind.wrap IntKind.i64 (y30.2.2.1 + (1 : Int))), ()))
 (gd (decide ((0 : Int) ≤ x18.2.2.1))
 (Option.bind x18.2.1[(Int.toNat x18.2.2.1)]? fun y21 =>
 (Option.bind (F94 y21.1) fun y22 =>
 (cond (!y22.1)
 (er_1 (false, ()))
 (cond (decide (x18.2.2.1 > (0 : Int)))
 (gd (decide ((0 : Int) ≤ (IntKind.wrap IntKind.i64 (x18.2.2.1 - (1 : Int)))))
 (Option.bind x18.2.1[(Int.toNat (IntKind.wrap IntKind.i64 (x18.2.2.1 - (1 : Int))))]? fun y23 =>
 (gd (decide ((0 : Int) ≤ x18.2.2.1))
 (Option.bind x18.2.1[(Int.toNat x18.2.2.1)]? fun y24 =>
 (cond (!(Op.bytesLess y23.1 y24.1))
 (er_1 (false, ()))
 (gd (decide ((0 : Int) ≤ x18.2.2.1))
 (Option.bind x18.2.1[(Int.toNat x18.2.2.1)]? fun y25 =>
 (Option.bind (g y25.2.1 (IntKind.wrap IntKind.i64 (x18.1 - (1 : Int)))) fun y26 =>
 (cond (!y26.1)
 (er_1 (false, ()))
 (j29 (x18.1, x18.2.1, x18.2.2.1, ())))))))))))
 (gd (decide ((0 : Int) ≤ x18.2.2.1))
 (Option.bind x18.2.1[(Int.toNat x18.2.2.1)]? fun y27 =>
 (Option.bind (g y27.2.1 (IntKind.wrap IntKind.i64 (x18.1 - (1 : Int)))) fun y28 =>
 (cond (!y28.1)
 (er_1 (false, ()))
 (j29 (x18.1, x18.2.1, x18.2.2.1, ()))))))))))))
 (e3_0 (())))
noncomputable def B183 (g : G183) (a0 : D84) (a1 : Int) : Option (Bool × Unit) :=
 (cond (a0.1 == (0 : Int))
 (cond (a0.2.1 == (0 : Int))
 (some ((a0.2.2.1 == []), ()))
 (some (false, ())))
 (cond (a0.1 == (1 : Int))
 (Option.bind (F70 a0.2.1 (0 : Int) (1 : Int)) fun y1 =>
 (cond y1.1
 (some ((a0.2.2.1 == []), ()))
 (some (false, ()))))
 (cond (a0.1 == (2 : Int))
 (Option.bind (F70 a0.2.1 (-(1000000000000 : Int)) (1000000000000 : Int)) fun y2 =>
 (cond y2.1
 (some ((a0.2.2.1 == []), ()))
 (some (false, ()))))
 (cond (a0.1 == (3 : Int))
 (cond (a0.2.1 == (0 : Int))
 (some ((decide ((((List.length a0.2.2.1) : Nat) : Int) ≤ (300 : Int))), ()))
 (some (false, ())))
 (cond (a0.1 == (4 : Int))
 (Option.bind (F224 a0.2.2.1) fun y3 =>
 (cond (a0.2.1 != (0 : Int))
 (some (false, ()))
 (cond (!y3.2.1)
 (some (false, ()))
 (cond (decide ((((List.length a0.2.2.1) : Nat) : Int) > (300 : Int)))
 (some (false, ()))
 (cond (a1 == (0 : Int))
 (some (false, ()))
 (iter (B183_R15 g
 (fun y12 =>
 (some (true, ())))
 (fun y13 =>
 (some (y13.1, ())))) fuel (a1, y3.1, (0 : Int), ())))))))
 (cond (a0.1 == (5 : Int))
 (Option.bind (F144 a0.2.2.1) fun y14 =>
 (cond (a0.2.1 != (0 : Int))
 (some (false, ()))
 (cond (!y14.2.1)
 (some (false, ()))
 (cond (decide ((((List.length a0.2.2.1) : Nat) : Int) > (300 : Int)))
 (some (false, ()))
 (cond (a1 == (0 : Int))
 (some (false, ()))
 (iter (B183_R25 g
 (fun y31 =>
 (some (true, ())))
 (fun y32 =>
 (some (y32.1, ())))) fuel (a1, y14.1, (0 : Int), ())))))))
 (some (false, ()))))))))
noncomputable def K183 (g : G183) : Fun := ⟨[(.ro Y84), (.ro (.int .i64))], [(.bool, .z)], fun z => B183 g z.1 z.2.1⟩
noncomputable def E183 (g : G183) : Env := ⟨160, tyTab tys, oneTab ones, fnTab [(70, C70), (94, C94), (144, C144), (183, (H183 g)), (224, C224)], false, [], [(14, [1, 5], []), (15, [1, 5, 7], []), (16, [1, 5, 7], []), (17, [1, 5, 7], []), (19, [], []), (24, [1, 8], []), (25, [1, 8, 10], []), (26, [1, 8, 10], []), (27, [1, 8, 10], []), (29, [], []), (30, [], []), (100000, [], []), (100001, [], []), (100002, [1, 5, 7], []), (100003, [], []), (100004, [1, 8, 10], []), (99999, [4], [])], none, [], []⟩
noncomputable def L183 (g : G183) : List (LoopS (Bool × Unit)) := [⟨15, ⟨[(1, (.pv (.int .i64))), (5, (.pv (.slice Y84))), (7, (.pv (.int .i64)))], []⟩, fun κ => B183_R15 g (fun y => κ.exit 1 (SSh.mk' ⟨[], []⟩ y)) (fun y => κ.ret (SSh.mk' ⟨[(4, (.pv .bool))], []⟩ y))⟩,
  ⟨25, ⟨[(1, (.pv (.int .i64))), (8, (.pv (.slice Y180))), (10, (.pv (.int .i64)))], []⟩, fun κ => B183_R25 g (fun y => κ.exit 3 (SSh.mk' ⟨[], []⟩ y)) (fun y => κ.ret (SSh.mk' ⟨[(4, (.pv .bool))], []⟩ y))⟩]
theorem L183_25 (g : G183) : RoundEq (E183 g) (L183 g) ((L183 g)[1]'(Nat.le_of_ble_eq_true rfl)) (nthLoop (codeOf Tryz.f183) 1) := fun κ N x => by kernel_rfl
theorem L183_15 (g : G183) : RoundEq (E183 g) (L183 g) ((L183 g)[0]'(Nat.le_of_ble_eq_true rfl)) (nthLoop (codeOf Tryz.f183) 0) := fun κ N x => by kernel_rfl
theorem K183_ok (g : G183) (hg : QuietOk Tryz.prog 183 (H183 g)) : QuietOk Tryz.prog 183 (K183 g) := tQ (E183 g) (L183 g) [nthLoop (codeOf Tryz.f183) 0, nthLoop (codeOf Tryz.f183) 1] Tryz.func183 ty_ok (.cons C70_ok (.cons C94_ok (.cons C144_ok (.cons hg (.cons C224_ok .nil))))) (.cons ((L183 g)[0]'(Nat.le_of_ble_eq_true rfl)) (by kernel_rfl) (L183_15 g) (.cons ((L183 g)[1]'(Nat.le_of_ble_eq_true rfl)) (by kernel_rfl) (L183_25 g) .nil))
noncomputable def S183 : Nat → G183
  | 0 => fun _ _ => none
  | k + 1 => B183 (S183 k)
noncomputable def F183 : G183 := S183 fuel
noncomputable def C183 : Fun := H183 F183
theorem C183_all : ∀ k, QuietOk Tryz.prog 183 (H183 (S183 k))
  | 0 => QuietOk.none Tryz.func183 (by rfl) (by decide) fun _ => rfl
  | k + 1 => K183_ok (S183 k) (C183_all k)
theorem C183_ok : QuietOk Tryz.prog 183 C183 := C183_all fuel
noncomputable def F140 (a0 : D84) : Option (Bool × Unit) :=
 (cond (decide ((((List.length a0.2.2.1) : Nat) : Int) ≤ (65536 : Int)))
 (Option.bind (F183 a0 (5 : Int)) fun y0 =>
 (some (y0.1, ())))
 (some (false, ())))
noncomputable def C140 : Fun := ⟨[(.ro Y84)], [(.bool, .z)], fun z => F140 z.1⟩
noncomputable def E140 : Env := ⟨11, tyTab tys, oneTab ones, fnTab [(183, C183)], false, [], [(99999, [2], [])], none, [], []⟩
noncomputable def L140 : List (LoopS (Bool × Unit)) := []
theorem C140_ok : QuietOk Tryz.prog 140 C140 := tQ E140 L140 [] Tryz.func140 ty_ok (.cons C183_ok .nil) .nil
noncomputable def F137 (a0 : D170) : Option (Bool × Unit) :=
 (cond (decide ((((List.length a0.2.1) : Nat) : Int) > (65536 : Int)))
 (some (false, ()))
 (Option.bind (F95 a0.2.1) fun y1 =>
 (cond (!y1.1)
 (some (false, ()))
 (Option.bind (F140 a0.2.2.1) fun y2 =>
 (cond (!y2.1)
 (some (false, ()))
 (let j11 : Unit → Option (Bool × Unit) := fun (y12 : Unit) =>
 (some (false, ()))
 (cond (a0.1 == (1 : Int))
 (cond (a0.1 == (1 : Int))
 (some (true, ()))
 (cond (a0.1 == (7 : Int))
 (some ((a0.2.2.1.1 == (4 : Int)), ()))
 (cond (a0.1 == (8 : Int))
 (some ((a0.2.2.1.1 == (1 : Int)), ()))
 (cond (a0.1 == (9 : Int))
 (cond (a0.2.2.1.1 == (2 : Int))
 (Option.bind (F70 a0.2.2.1.2.1 (0 : Int) (5 : Int)) fun y5 =>
 (some (y5.1, ())))
 (some (false, ())))
 (cond (a0.1 == (10 : Int))
 (cond (a0.2.2.1.1 == (2 : Int))
 (some ((decide (a0.2.2.1.2.1 ≥ (0 : Int))), ()))
 (some (false, ())))
 (j11 (())))))))
 (cond (a0.1 == (2 : Int))
 (cond (a0.1 == (2 : Int))
 (some (true, ()))
 (cond (a0.1 == (7 : Int))
 (some ((a0.2.2.1.1 == (4 : Int)), ()))
 (cond (a0.1 == (8 : Int))
 (some ((a0.2.2.1.1 == (1 : Int)), ()))
 (cond (a0.1 == (9 : Int))
 (cond (a0.2.2.1.1 == (2 : Int))
 (Option.bind (F70 a0.2.2.1.2.1 (0 : Int) (5 : Int)) fun y6 =>
 (some (y6.1, ())))
 (some (false, ())))
 (cond (a0.1 == (10 : Int))
 (cond (a0.2.2.1.1 == (2 : Int))
 (some ((decide (a0.2.2.1.2.1 ≥ (0 : Int))), ()))
 (some (false, ())))
 (j11 (())))))))
 (cond (a0.1 == (3 : Int))
 (cond (a0.1 == (3 : Int))
 (some (true, ()))
 (cond (a0.1 == (7 : Int))
 (some ((a0.2.2.1.1 == (4 : Int)), ()))
 (cond (a0.1 == (8 : Int))
 (some ((a0.2.2.1.1 == (1 : Int)), ()))
 (cond (a0.1 == (9 : Int))
 (cond (a0.2.2.1.1 == (2 : Int))
 (Option.bind (F70 a0.2.2.1.2.1 (0 : Int) (5 : Int)) fun y7 =>
 (some (y7.1, ())))
 (some (false, ())))
 (cond (a0.1 == (10 : Int))
 (cond (a0.2.2.1.1 == (2 : Int))
 (some ((decide (a0.2.2.1.2.1 ≥ (0 : Int))), ()))
 (some (false, ())))
 (j11 (())))))))
 (cond (a0.1 == (4 : Int))
 (cond (a0.1 == (4 : Int))
 (some (true, ()))
 (cond (a0.1 == (7 : Int))
 (some ((a0.2.2.1.1 == (4 : Int)), ()))
 (cond (a0.1 == (8 : Int))
 (some ((a0.2.2.1.1 == (1 : Int)), ()))
 (cond (a0.1 == (9 : Int))
 (cond (a0.2.2.1.1 == (2 : Int))
 (Option.bind (F70 a0.2.2.1.2.1 (0 : Int) (5 : Int)) fun y8 =>
 (some (y8.1, ())))
 (some (false, ())))
 (cond (a0.1 == (10 : Int))
 (cond (a0.2.2.1.1 == (2 : Int))
 (some ((decide (a0.2.2.1.2.1 ≥ (0 : Int))), ()))
 (some (false, ())))
 (j11 (())))))))
 (cond (a0.1 == (5 : Int))
 (cond (a0.1 == (5 : Int))
 (some (true, ()))
 (cond (a0.1 == (7 : Int))
 (some ((a0.2.2.1.1 == (4 : Int)), ()))
 (cond (a0.1 == (8 : Int))
 (some ((a0.2.2.1.1 == (1 : Int)), ()))
 (cond (a0.1 == (9 : Int))
 (cond (a0.2.2.1.1 == (2 : Int))
 (Option.bind (F70 a0.2.2.1.2.1 (0 : Int) (5 : Int)) fun y9 =>
 (some (y9.1, ())))
 (some (false, ())))
 (cond (a0.1 == (10 : Int))
 (cond (a0.2.2.1.1 == (2 : Int))
 (some ((decide (a0.2.2.1.2.1 ≥ (0 : Int))), ()))
 (some (false, ())))
 (j11 (())))))))
 (cond (a0.1 == (6 : Int))
 (some (true, ()))
 (cond (a0.1 == (7 : Int))
 (some ((a0.2.2.1.1 == (4 : Int)), ()))
 (cond (a0.1 == (8 : Int))
 (some ((a0.2.2.1.1 == (1 : Int)), ()))
 (cond (a0.1 == (9 : Int))
 (cond (a0.2.2.1.1 == (2 : Int))
 (Option.bind (F70 a0.2.2.1.2.1 (0 : Int) (5 : Int)) fun y10 =>
 (some (y10.1, ())))
 (some (false, ())))
 (cond (a0.1 == (10 : Int))
 (cond (a0.2.2.1.1 == (2 : Int))
 (some ((decide (a0.2.2.1.2.1 ≥ (0 : Int))), ()))
 (some (false, ())))
 (j11 (()))))))))))))))))))
noncomputable def C137 : Fun := ⟨[(.ro Y170)], [(.bool, .z)], fun z => F137 z.1⟩
noncomputable def E137 : Env := ⟨64, tyTab tys, oneTab ones, fnTab [(70, C70), (95, C95), (140, C140)], false, [], [(3, [1], []), (19, [], []), (100000, [], []), (99999, [2], [])], none, [], []⟩
noncomputable def L137 : List (LoopS (Bool × Unit)) := []
theorem C137_ok : QuietOk Tryz.prog 137 C137 := tQ E137 L137 [] Tryz.func137 ty_ok (.cons C70_ok (.cons C95_ok (.cons C140_ok .nil))) .nil
noncomputable def F93_R9 (e2_0 : Int × D44 × Unit → Option (Bool × Unit)) (er_1 : Bool × Unit → Option (Bool × Unit)) (rec : Int × Int × D44 × Unit → Option (Bool × Unit)) (x10 : Int × Int × D44 × Unit) : Option (Bool × Unit) :=
 (gd (decide ((0 : Int) ≤ x10.1))
 (Option.bind x10.2.2.1.1[(Int.toNat x10.1)]? fun y12 =>
 (cond (decide (x10.2.1 < (((List.length y12.1) : Nat) : Int)))
 (gd (decide ((0 : Int) ≤ x10.1))
 (Option.bind x10.2.2.1.1[(Int.toNat x10.1)]? fun y14 =>
 (gd (decide ((0 : Int) ≤ x10.2.1))
 (Option.bind y14.1[(Int.toNat x10.2.1)]? fun y15 =>
 (Option.bind (F137 y15) fun y16 =>
 (cond (!y16.1)
 (er_1 (false, ()))
 (rec (x10.1, (IntKind.wrap IntKind.i64 (x10.2.1 + (1 : Int))), x10.2.2.1, ()))))))))
 (e2_0 (x10.1, x10.2.2.1, ())))))
noncomputable def F93_R4 (e0_0 : Unit → Option (Bool × Unit)) (er_1 : Bool × Unit → Option (Bool × Unit)) (rec : Int × D44 × Unit → Option (Bool × Unit)) (x4 : Int × D44 × Unit) : Option (Bool × Unit) :=
 (cond (decide (x4.1 < (((List.length x4.2.1.1) : Nat) : Int)))
 (gd (decide ((0 : Int) ≤ x4.1))
 (Option.bind x4.2.1.1[(Int.toNat x4.1)]? fun y8 =>
 (cond (decide ((((List.length y8.1) : Nat) : Int) > (4 : Int)))
 (er_1 (false, ()))
 (iter (F93_R9
 (fun y17 =>
 (rec ((IntKind.wrap IntKind.i64 (y17.1 + (1 : Int))), y17.2.1, ())))
 (fun y18 =>
 (er_1 (y18.1, ())))) fuel (x4.1, (0 : Int), x4.2.1, ())))))
 (e0_0 (())))
noncomputable def F93 (a0 : D44) : Option (Bool × Unit) :=
 (Option.bind (F70 (((List.length a0.1) : Nat) : Int) (1 : Int) (3 : Int)) fun y1 =>
 (cond (!y1.1)
 (some (false, ()))
 (iter (F93_R4
 (fun y19 =>
 (some (true, ())))
 (fun y20 =>
 (some (y20.1, ())))) fuel ((0 : Int), a0, ()))))
noncomputable def C93 : Fun := ⟨[(.ro Y44)], [(.bool, .z)], fun z => F93 z.1⟩
noncomputable def E93 : Env := ⟨47, tyTab tys, oneTab ones, fnTab [(70, C70), (137, C137)], false, [], [(3, [1], []), (4, [1, 3], []), (5, [1, 3], []), (6, [1, 3], []), (8, [1, 3], []), (9, [1, 3, 4], []), (10, [1, 3, 4], []), (11, [1, 3, 4], []), (13, [], []), (100000, [], []), (100001, [1, 3], []), (100002, [1, 3], []), (100003, [1, 3, 4], []), (99999, [2], [])], none, [], []⟩
noncomputable def L93 : List (LoopS (Bool × Unit)) := [⟨9, ⟨[(1, (.ptr 8 [])), (3, (.pv (.int .i64))), (4, (.pv (.int .i64)))], [(8, (.data true Y44 .z))]⟩, fun κ => F93_R9 (fun y => κ.exit 2 (SSh.mk' ⟨[(1, (.ptr 8 [])), (3, (.pv (.int .i64)))], [(8, (.data true Y44 .z))]⟩ y)) (fun y => κ.ret (SSh.mk' ⟨[(2, (.pv .bool))], []⟩ y))⟩,
  ⟨4, ⟨[(1, (.ptr 8 [])), (3, (.pv (.int .i64)))], [(8, (.data true Y44 .z))]⟩, fun κ => F93_R4 (fun y => κ.exit 0 (SSh.mk' ⟨[], []⟩ y)) (fun y => κ.ret (SSh.mk' ⟨[(2, (.pv .bool))], []⟩ y))⟩]
theorem L93_9 : RoundEq E93 L93 L93[0] (nthLoop (codeOf Tryz.f93) 1) := fun κ N x => by kernel_rfl
theorem L93_4 : RoundEq E93 L93 L93[1] (nthLoop (codeOf Tryz.f93) 0) := fun κ N x => by kernel_rfl
theorem C93_ok : QuietOk Tryz.prog 93 C93 := tQ E93 L93 [nthLoop (codeOf Tryz.f93) 0, nthLoop (codeOf Tryz.f93) 1] Tryz.func93 ty_ok (.cons C70_ok (.cons C137_ok .nil)) (.cons L93[1] (by kernel_rfl) L93_4 (.cons L93[0] (by kernel_rfl) L93_9 .nil))
noncomputable def F119 (a0 : D103) : Option (Bool × Unit) :=
 (Option.bind (F94 a0.1) fun y0 =>
 (cond y0.1
 (Option.bind (F93 a0.2.1) fun y1 =>
 (some (y1.1, ())))
 (some (false, ()))))
noncomputable def C119 : Fun := ⟨[(.ro Y103)], [(.bool, .z)], fun z => F119 z.1⟩
noncomputable def E119 : Env := ⟨11, tyTab tys, oneTab ones, fnTab [(93, C93), (94, C94)], false, [], [(99999, [2], [])], none, [], []⟩
noncomputable def L119 : List (LoopS (Bool × Unit)) := []
theorem C119_ok : QuietOk Tryz.prog 119 C119 := tQ E119 L119 [] Tryz.func119 ty_ok (.cons C93_ok (.cons C94_ok .nil)) .nil
noncomputable def F96 (a0 : D84) : Option (Bool × Unit) :=
 (Option.bind (F140 a0) fun y0 =>
 (cond y0.1
 (some ((a0.1 == (5 : Int)), ()))
 (some (false, ()))))
noncomputable def C96 : Fun := ⟨[(.ro Y84)], [(.bool, .z)], fun z => F96 z.1⟩
noncomputable def E96 : Env := ⟨10, tyTab tys, oneTab ones, fnTab [(140, C140)], false, [], [(99999, [2], [])], none, [], []⟩
noncomputable def L96 : List (LoopS (Bool × Unit)) := []
theorem C96_ok : QuietOk Tryz.prog 96 C96 := tQ E96 L96 [] Tryz.func96 ty_ok (.cons C140_ok .nil) .nil
noncomputable def F141_R3 (e0_0 : D84 × Unit → Option (D84 × Bool × Unit)) (er_1 : Bool × D84 × Unit → Option (D84 × Bool × Unit)) (rec : List UInt8 × List (D180) × Int × D84 × Unit → Option (D84 × Bool × Unit)) (x3 : List UInt8 × List (D180) × Int × D84 × Unit) : Option (D84 × Bool × Unit) :=
 (cond (decide (x3.2.2.1 < (((List.length x3.2.1) : Nat) : Int)))
 (gd (decide ((0 : Int) ≤ x3.2.2.1))
 (Option.bind x3.2.1[(Int.toNat x3.2.2.1)]? fun y6 =>
 (cond (y6.1 == x3.1)
 (gd (decide ((0 : Int) ≤ x3.2.2.1))
 (Option.bind x3.2.1[(Int.toNat x3.2.2.1)]? fun y7 =>
 (er_1 (true, y7.2.1, ()))))
 (rec (x3.1, x3.2.1, (IntKind.wrap IntKind.i64 (x3.2.2.1 + (1 : Int))), x3.2.2.2.1, ())))))
 (e0_0 (x3.2.2.2.1, ())))
noncomputable def F141 (a0 : D84) (a1 : List UInt8) : Option (D84 × Bool × Unit) :=
 (Option.bind (F144 a0.2.2.1) fun y0 =>
 (iter (F141_R3
 (fun y8 =>
 (some (((0 : Int), ((0 : Int), ([], ()))), (false, ()))))
 (fun y9 =>
 (some (y9.2.1, (y9.1, ()))))) fuel (a1, y0.1, (0 : Int), ((0 : Int), ((0 : Int), ([], ()))), ())))
noncomputable def C141 : Fun := ⟨[(.ro Y84), (.ro .str)], [(Y84, .z), (.bool, .z)], fun z => F141 z.1 z.2.1⟩
noncomputable def E141 : Env := ⟨34, tyTab tys, oneTab ones, fnTab [(144, C144)], false, [], [(3, [1, 4, 6, 8], []), (4, [1, 4, 6, 8], []), (5, [1, 4, 6, 8], []), (7, [4], []), (100000, [4], []), (100001, [1, 4, 6, 8], []), (99999, [4, 5], [])], none, [], []⟩
noncomputable def L141 : List (LoopS (D84 × Bool × Unit)) := [⟨3, ⟨[(1, (.pv .str)), (4, (.ptr 32 [])), (6, (.pv (.slice Y180))), (8, (.pv (.int .i64)))], [(32, (.data true Y84 .z))]⟩, fun κ => F141_R3 (fun y => κ.exit 0 (SSh.mk' ⟨[(4, (.ptr 32 []))], [(32, (.data true Y84 .z))]⟩ y)) (fun y => κ.ret (SSh.mk' ⟨[(4, (.ptr 32 [])), (5, (.pv .bool))], [(32, (.data true Y84 .z))]⟩ y))⟩]
theorem L141_3 : RoundEq E141 L141 L141[0] (nthLoop (codeOf Tryz.f141) 0) := fun κ N x => by kernel_rfl
theorem C141_ok : QuietOk Tryz.prog 141 C141 := tQ E141 L141 [nthLoop (codeOf Tryz.f141) 0] Tryz.func141 ty_ok (.cons C144_ok .nil) (.cons L141[0] (by kernel_rfl) L141_3 .nil)
noncomputable def F97 (a0 : D84) : Option (Int × Unit) :=
 (Option.bind (F141 a0 [(105 : UInt8), (100 : UInt8)]) fun y0 =>
 (cond (!y0.2.1)
 (some ((-(1 : Int)), ()))
 (cond (y0.1.1 != (2 : Int))
 (some ((-(1 : Int)), ()))
 (Option.bind (F70 y0.1.2.1 (0 : Int) (99 : Int)) fun y2 =>
 (cond (!y2.1)
 (some ((-(1 : Int)), ()))
 (some (y0.1.2.1, ())))))))
noncomputable def C97 : Fun := ⟨[(.ro Y84)], [((.int .i64), .z)], fun z => F97 z.1⟩
noncomputable def E97 : Env := ⟨25, tyTab tys, oneTab ones, fnTab [(70, C70), (141, C141)], false, [], [(4, [3], []), (99999, [2], [])], none, [], []⟩
noncomputable def L97 : List (LoopS (Int × Unit)) := []
theorem C97_ok : QuietOk Tryz.prog 97 C97 := tQ E97 L97 [] Tryz.func97 ty_ok (.cons C70_ok (.cons C141_ok .nil)) .nil
noncomputable def F176 (a0 : Int) (a1 : Bool) (a2 : D84) : Option (Bool × Unit) :=
 (cond a1
 (some (((decide (a2.1 = (0 : Int))) && ((decide (a2.2.1 = (0 : Int))) && ((a2.2.2.1 == []) && true))), ()))
 (Option.bind (F96 a2) fun y1 =>
 (cond y1.1
 (Option.bind (F97 a2) fun y2 =>
 (some ((y2.1 == a0), ())))
 (some (false, ())))))
noncomputable def C176 : Fun := ⟨[(.ro (.int .i64)), (.ro .bool), (.ro Y84)], [(.bool, .z)], fun z => F176 z.1 z.2.1 z.2.2.1⟩
noncomputable def E176 : Env := ⟨19, tyTab tys, oneTab ones, fnTab [(96, C96), (97, C97)], false, [], [(3, [0, 5], []), (99999, [6], [])], none, [], []⟩
noncomputable def L176 : List (LoopS (Bool × Unit)) := []
theorem C176_ok : QuietOk Tryz.prog 176 C176 := tQ E176 L176 [] Tryz.func176 ty_ok (.cons C96_ok (.cons C97_ok .nil)) .nil
noncomputable def F175 (a0 : D106) : Option (Bool × Unit) :=
 (Option.bind (F94 a0.1) fun y0 =>
 (cond y0.1
 (Option.bind (F70 a0.2.1 (0 : Int) (19 : Int)) fun y1 =>
 (cond y1.1
 (Option.bind (F176 a0.2.1 a0.2.2.1 a0.2.2.2.1) fun y2 =>
 (some (y2.1, ())))
 (some (false, ()))))
 (some (false, ()))))
noncomputable def C175 : Fun := ⟨[(.ro Y106)], [(.bool, .z)], fun z => F175 z.1⟩
noncomputable def E175 : Env := ⟨20, tyTab tys, oneTab ones, fnTab [(70, C70), (94, C94), (176, C176)], false, [], [(99999, [2], [])], none, [], []⟩
noncomputable def L175 : List (LoopS (Bool × Unit)) := []
theorem C175_ok : QuietOk Tryz.prog 175 C175 := tQ E175 L175 [] Tryz.func175 ty_ok (.cons C70_ok (.cons C94_ok (.cons C176_ok .nil))) .nil
noncomputable def F120 (a0 : D108) : Option (Bool × Unit) :=
 (Option.bind (F175 a0.1) fun y0 =>
 (cond y0.1
 (Option.bind (F176 a0.1.2.1 (!a0.2.2.1) a0.2.1) fun y1 =>
 (some (y1.1, ())))
 (some (false, ()))))
noncomputable def C120 : Fun := ⟨[(.ro Y108)], [(.bool, .z)], fun z => F120 z.1⟩
noncomputable def E120 : Env := ⟨17, tyTab tys, oneTab ones, fnTab [(175, C175), (176, C176)], false, [], [(99999, [2], [])], none, [], []⟩
noncomputable def L120 : List (LoopS (Bool × Unit)) := []
theorem C120_ok : QuietOk Tryz.prog 120 C120 := tQ E120 L120 [] Tryz.func120 ty_ok (.cons C175_ok (.cons C176_ok .nil)) .nil
noncomputable def F71_R2 (e0_0 : List (D103) × List (D108) × Unit → Option (Bool × Unit)) (er_1 : Bool × Unit → Option (Bool × Unit)) (rec : List (D103) × List (D108) × Int × Unit → Option (Bool × Unit)) (x2 : List (D103) × List (D108) × Int × Unit) : Option (Bool × Unit) :=
 (cond (decide (x2.2.2.1 < (((List.length x2.1) : Nat) : Int)))
 (gd (decide ((0 : Int) ≤ x2.2.2.1))
 (Option.bind x2.1[(Int.toNat x2.2.2.1)]? fun y5 =>
 (Option.bind (F119 y5) fun y6 =>
 (cond (!y6.1)
 (er_1 (false, ()))
 (rec (x2.1, x2.2.1, (IntKind.wrap IntKind.i64 (x2.2.2.1 + (1 : Int))), ()))))))
 (e0_0 (x2.1, x2.2.1, ())))
noncomputable def F71_R12 (e4_0 : List (D103) × List (D108) × Int × Unit → Option (Bool × Unit)) (er_1 : Bool × Unit → Option (Bool × Unit)) (rec : List (D103) × List (D108) × Int × Int × Unit → Option (Bool × Unit)) (x18 : List (D103) × List (D108) × Int × Int × Unit) : Option (Bool × Unit) :=
 (cond (decide (x18.2.2.2.1 < x18.2.2.1))
 (let j25 : List (D103) × List (D108) × Int × Int × Unit → Option (Bool × Unit) := fun (y26 : List (D103) × List (D108) × Int × Int × Unit) =>
 (rec (y26.1, y26.2.1, y26.2.2.1, (IntKind.wrap IntKind.i64 (y26.2.2.2.1 + (1 : Int))), ()))
 (gd (decide ((0 : Int) ≤ x18.2.2.2.1))
 (Option.bind x18.2.1[(Int.toNat x18.2.2.2.1)]? fun y21 =>
 (gd (decide ((0 : Int) ≤ x18.2.2.1))
 (Option.bind x18.2.1[(Int.toNat x18.2.2.1)]? fun y22 =>
 (cond (y21.1.1 == y22.1.1)
 (gd (decide ((0 : Int) ≤ x18.2.2.2.1))
 (Option.bind x18.2.1[(Int.toNat x18.2.2.2.1)]? fun y23 =>
 (gd (decide ((0 : Int) ≤ x18.2.2.1))
 (Option.bind x18.2.1[(Int.toNat x18.2.2.1)]? fun y24 =>
 (cond (y23.1.2.1 == y24.1.2.1)
 (er_1 (false, ()))
 (j25 (x18.1, x18.2.1, x18.2.2.1, x18.2.2.2.1, ())))))))
 (j25 (x18.1, x18.2.1, x18.2.2.1, x18.2.2.2.1, ()))))))))
 (e4_0 (x18.1, x18.2.1, x18.2.2.1, ())))
noncomputable def F71_R7 (e2_0 : List (D103) × List (D108) × Unit → Option (Bool × Unit)) (er_1 : Bool × Unit → Option (Bool × Unit)) (rec : List (D103) × List (D108) × Int × Unit → Option (Bool × Unit)) (x11 : List (D103) × List (D108) × Int × Unit) : Option (Bool × Unit) :=
 (cond (decide (x11.2.2.1 < (((List.length x11.2.1) : Nat) : Int)))
 (gd (decide ((0 : Int) ≤ x11.2.2.1))
 (Option.bind x11.2.1[(Int.toNat x11.2.2.1)]? fun y15 =>
 (Option.bind (F120 y15) fun y16 =>
 (cond (!y16.1)
 (er_1 (false, ()))
 (iter (F71_R12
 (fun y27 =>
 (rec (y27.1, y27.2.1, (IntKind.wrap IntKind.i64 (y27.2.2.1 + (1 : Int))), ())))
 (fun y28 =>
 (er_1 (y28.1, ())))) fuel (x11.1, x11.2.1, x11.2.2.1, (0 : Int), ()))))))
 (e2_0 (x11.1, x11.2.1, ())))
noncomputable def F71 (a0 : List (D103)) (a1 : List (D108)) : Option (Bool × Unit) :=
 (iter (F71_R2
 (fun y7 =>
 (iter (F71_R7
 (fun y29 =>
 (cond (decide ((((List.length y29.1) : Nat) : Int) ≤ (20 : Int)))
 (some ((decide ((((List.length y29.2.1) : Nat) : Int) ≤ (60 : Int))), ()))
 (some (false, ()))))
 (fun y30 =>
 (some (y30.1, ())))) fuel (y7.1, y7.2.1, (0 : Int), ())))
 (fun y8 =>
 (some (y8.1, ())))) fuel (a0, a1, (0 : Int), ()))
noncomputable def C71 : Fun := ⟨[(.ro (.slice Y103)), (.ro (.slice Y108))], [(.bool, .z)], fun z => F71 z.1 z.2.1⟩
noncomputable def E71 : Env := ⟨73, tyTab tys, oneTab ones, fnTab [(119, C119), (120, C120)], false, [], [(2, [0, 1, 5], []), (3, [0, 1, 5], []), (4, [0, 1, 5], []), (6, [0, 1], []), (7, [0, 1, 6], []), (8, [0, 1, 6], []), (9, [0, 1, 6], []), (11, [0, 1, 6], []), (12, [0, 1, 6, 7], []), (13, [0, 1, 6, 7], []), (14, [0, 1, 6, 7], []), (16, [0, 1], []), (100000, [0, 1], []), (100001, [0, 1, 5], []), (100002, [0, 1], []), (100003, [0, 1, 6], []), (100004, [0, 1, 6], []), (100005, [0, 1, 6, 7], []), (99999, [4], [])], none, [], []⟩
noncomputable def L71 : List (LoopS (Bool × Unit)) := [⟨2, ⟨[(0, (.pv (.slice Y103))), (1, (.pv (.slice Y108))), (5, (.pv (.int .i64)))], []⟩, fun κ => F71_R2 (fun y => κ.exit 0 (SSh.mk' ⟨[(0, (.pv (.slice Y103))), (1, (.pv (.slice Y108)))], []⟩ y)) (fun y => κ.ret (SSh.mk' ⟨[(4, (.pv .bool))], []⟩ y))⟩,
  ⟨12, ⟨[(0, (.pv (.slice Y103))), (1, (.pv (.slice Y108))), (6, (.pv (.int .i64))), (7, (.pv (.int .i64)))], []⟩, fun κ => F71_R12 (fun y => κ.exit 4 (SSh.mk' ⟨[(0, (.pv (.slice Y103))), (1, (.pv (.slice Y108))), (6, (.pv (.int .i64)))], []⟩ y)) (fun y => κ.ret (SSh.mk' ⟨[(4, (.pv .bool))], []⟩ y))⟩,
  ⟨7, ⟨[(0, (.pv (.slice Y103))), (1, (.pv (.slice Y108))), (6, (.pv (.int .i64)))], []⟩, fun κ => F71_R7 (fun y => κ.exit 2 (SSh.mk' ⟨[(0, (.pv (.slice Y103))), (1, (.pv (.slice Y108)))], []⟩ y)) (fun y => κ.ret (SSh.mk' ⟨[(4, (.pv .bool))], []⟩ y))⟩]
theorem L71_12 : RoundEq E71 L71 L71[1] (nthLoop (codeOf Tryz.f71) 2) := fun κ N x => by kernel_rfl
theorem L71_7 : RoundEq E71 L71 L71[2] (nthLoop (codeOf Tryz.f71) 1) := fun κ N x => by kernel_rfl
theorem L71_2 : RoundEq E71 L71 L71[0] (nthLoop (codeOf Tryz.f71) 0) := fun κ N x => by kernel_rfl
theorem C71_ok : QuietOk Tryz.prog 71 C71 := tQ E71 L71 [nthLoop (codeOf Tryz.f71) 0, nthLoop (codeOf Tryz.f71) 1, nthLoop (codeOf Tryz.f71) 2] Tryz.func71 ty_ok (.cons C119_ok (.cons C120_ok .nil)) (.cons L71[0] (by kernel_rfl) L71_2 (.cons L71[2] (by kernel_rfl) L71_7 (.cons L71[1] (by kernel_rfl) L71_12 .nil)))
noncomputable def F30 (a0 : D25) : Option (Bool × Unit) :=
 (Option.bind (F70 a0.1 (0 : Int) (10000 : Int)) fun y0 =>
 (cond y0.1
 (Option.bind (F70 a0.2.1 (IntKind.wrap IntKind.i64 (a0.1 + (1 : Int))) (10000 : Int)) fun y1 =>
 (cond y1.1
 (Option.bind (F71 a0.2.2.1 a0.2.2.2.1) fun y2 =>
 (some (y2.1, ())))
 (some (false, ()))))
 (some (false, ()))))
noncomputable def C30 : Fun := ⟨[(.ro Y25)], [(.bool, .z)], fun z => F30 z.1⟩
noncomputable def E30 : Env := ⟨21, tyTab tys, oneTab ones, fnTab [(70, C70), (71, C71)], false, [], [(99999, [2], [])], none, [], []⟩
noncomputable def L30 : List (LoopS (Bool × Unit)) := []
theorem C30_ok : QuietOk Tryz.prog 30 C30 := tQ E30 L30 [] Tryz.func30 ty_ok (.cons C70_ok (.cons C71_ok .nil)) .nil
noncomputable def F29_R2 (e0_0 : List (D25) × Unit → Option (Bool × Unit)) (er_1 : Bool × Unit → Option (Bool × Unit)) (rec : List (D25) × Int × Unit → Option (Bool × Unit)) (x2 : List (D25) × Int × Unit) : Option (Bool × Unit) :=
 (cond (decide (x2.2.1 < (((List.length x2.1) : Nat) : Int)))
 (let j13 : List (D25) × Int × Unit → Option (Bool × Unit) := fun (y14 : List (D25) × Int × Unit) =>
 (rec (y14.1, (IntKind.wrap IntKind.i64 (y14.2.1 + (1 : Int))), ()))
 (gd (decide ((0 : Int) ≤ x2.2.1))
 (Option.bind x2.1[(Int.toNat x2.2.1)]? fun y5 =>
 (Option.bind (F30 y5) fun y6 =>
 (cond (!y6.1)
 (er_1 (false, ()))
 (cond (decide (x2.2.1 > (0 : Int)))
 (gd (decide ((0 : Int) ≤ (IntKind.wrap IntKind.i64 (x2.2.1 - (1 : Int)))))
 (Option.bind x2.1[(Int.toNat (IntKind.wrap IntKind.i64 (x2.2.1 - (1 : Int))))]? fun y7 =>
 (gd (decide ((0 : Int) ≤ x2.2.1))
 (Option.bind x2.1[(Int.toNat x2.2.1)]? fun y8 =>
 (cond (decide (y7.2.1 ≥ y8.2.1))
 (er_1 (false, ()))
 (gd (decide ((0 : Int) ≤ x2.2.1))
 (Option.bind x2.1[(Int.toNat x2.2.1)]? fun y9 =>
 (cond y9.2.2.2.2.1
 (gd (decide ((0 : Int) ≤ x2.2.1))
 (Option.bind x2.1[(Int.toNat x2.2.1)]? fun y10 =>
 (cond y10.2.2.2.2.2.1
 (er_1 (false, ()))
 (j13 (x2.1, x2.2.1, ())))))
 (j13 (x2.1, x2.2.1, ()))))))))))
 (gd (decide ((0 : Int) ≤ x2.2.1))
 (Option.bind x2.1[(Int.toNat x2.2.1)]? fun y11 =>
 (cond y11.2.2.2.2.1
 (gd (decide ((0 : Int) ≤ x2.2.1))
 (Option.bind x2.1[(Int.toNat x2.2.1)]? fun y12 =>
 (cond y12.2.2.2.2.2.1
 (er_1 (false, ()))
 (j13 (x2.1, x2.2.1, ())))))
 (j13 (x2.1, x2.2.1, ())))))))))))
 (e0_0 (x2.1, ())))
noncomputable def F29 (a0 : List (D25)) : Option (Bool × Unit) :=
 (iter (F29_R2
 (fun y15 =>
 (some ((decide ((((List.length y15.1) : Nat) : Int) ≤ (30 : Int))), ())))
 (fun y16 =>
 (some (y16.1, ())))) fuel (a0, (0 : Int), ()))
noncomputable def C29 : Fun := ⟨[(.ro (.slice Y25))], [(.bool, .z)], fun z => F29 z.1⟩
noncomputable def E29 : Env := ⟨51, tyTab tys, oneTab ones, fnTab [(30, C30)], false, [], [(2, [0, 3], []), (3, [0, 3], []), (4, [0, 3], []), (6, [0], []), (100000, [0], []), (100001, [0, 3], []), (99999, [2], [])], none, [], []⟩
noncomputable def L29 : List (LoopS (Bool × Unit)) := [⟨2, ⟨[(0, (.pv (.slice Y25))), (3, (.pv (.int .i64)))], []⟩, fun κ => F29_R2 (fun y => κ.exit 0 (SSh.mk' ⟨[(0, (.pv (.slice Y25)))], []⟩ y)) (fun y => κ.ret (SSh.mk' ⟨[(2, (.pv .bool))], []⟩ y))⟩]
theorem L29_2 : RoundEq E29 L29 L29[0] (nthLoop (codeOf Tryz.f29) 0) := fun κ N x => by kernel_rfl
theorem C29_ok : QuietOk Tryz.prog 29 C29 := tQ E29 L29 [nthLoop (codeOf Tryz.f29) 0] Tryz.func29 ty_ok (.cons C30_ok .nil) (.cons L29[0] (by kernel_rfl) L29_2 .nil)
noncomputable def F72_R5 (e2_0 : List (D108) × List (D108) × Int × Unit → Option (Bool × Unit)) (er_1 : Bool × Unit → Option (Bool × Unit)) (rec : List (D108) × List (D108) × Int × Int × Unit → Option (Bool × Unit)) (x6 : List (D108) × List (D108) × Int × Int × Unit) : Option (Bool × Unit) :=
 (cond (decide (x6.2.2.2.1 < (((List.length x6.2.1) : Nat) : Int)))
 (let j13 : List (D108) × List (D108) × Int × Int × Unit → Option (Bool × Unit) := fun (y14 : List (D108) × List (D108) × Int × Int × Unit) =>
 (rec (y14.1, y14.2.1, y14.2.2.1, (IntKind.wrap IntKind.i64 (y14.2.2.2.1 + (1 : Int))), ()))
 (gd (decide ((0 : Int) ≤ x6.2.2.1))
 (Option.bind x6.1[(Int.toNat x6.2.2.1)]? fun y9 =>
 (gd (decide ((0 : Int) ≤ x6.2.2.2.1))
 (Option.bind x6.2.1[(Int.toNat x6.2.2.2.1)]? fun y10 =>
 (cond (y9.1.1 == y10.1.1)
 (gd (decide ((0 : Int) ≤ x6.2.2.1))
 (Option.bind x6.1[(Int.toNat x6.2.2.1)]? fun y11 =>
 (gd (decide ((0 : Int) ≤ x6.2.2.2.1))
 (Option.bind x6.2.1[(Int.toNat x6.2.2.2.1)]? fun y12 =>
 (cond (y11.1.2.1 == y12.1.2.1)
 (er_1 (true, ()))
 (j13 (x6.1, x6.2.1, x6.2.2.1, x6.2.2.2.1, ())))))))
 (j13 (x6.1, x6.2.1, x6.2.2.1, x6.2.2.2.1, ()))))))))
 (e2_0 (x6.1, x6.2.1, x6.2.2.1, ())))
noncomputable def F72_R2 (e0_0 : Unit → Option (Bool × Unit)) (er_1 : Bool × Unit → Option (Bool × Unit)) (rec : List (D108) × List (D108) × Int × Unit → Option (Bool × Unit)) (x2 : List (D108) × List (D108) × Int × Unit) : Option (Bool × Unit) :=
 (cond (decide (x2.2.2.1 < (((List.length x2.1) : Nat) : Int)))
 (iter (F72_R5
 (fun y15 =>
 (rec (y15.1, y15.2.1, (IntKind.wrap IntKind.i64 (y15.2.2.1 + (1 : Int))), ())))
 (fun y16 =>
 (er_1 (y16.1, ())))) fuel (x2.1, x2.2.1, x2.2.2.1, (0 : Int), ()))
 (e0_0 (())))
noncomputable def F72 (a0 : List (D108)) (a1 : List (D108)) : Option (Bool × Unit) :=
 (iter (F72_R2
 (fun y17 =>
 (some (false, ())))
 (fun y18 =>
 (some (y18.1, ())))) fuel (a0, a1, (0 : Int), ()))
noncomputable def C72 : Fun := ⟨[(.ro (.slice Y108)), (.ro (.slice Y108))], [(.bool, .z)], fun z => F72 z.1 z.2.1⟩
noncomputable def E72 : Env := ⟨47, tyTab tys, oneTab ones, fnTab [], false, [], [(2, [0, 1, 5], []), (3, [0, 1, 5], []), (4, [0, 1, 5], []), (5, [0, 1, 5, 6], []), (6, [0, 1, 5, 6], []), (7, [0, 1, 5, 6], []), (9, [], []), (100000, [], []), (100001, [0, 1, 5], []), (100002, [0, 1, 5], []), (100003, [0, 1, 5, 6], []), (99999, [4], [])], none, [], []⟩
noncomputable def L72 : List (LoopS (Bool × Unit)) := [⟨5, ⟨[(0, (.pv (.slice Y108))), (1, (.pv (.slice Y108))), (5, (.pv (.int .i64))), (6, (.pv (.int .i64)))], []⟩, fun κ => F72_R5 (fun y => κ.exit 2 (SSh.mk' ⟨[(0, (.pv (.slice Y108))), (1, (.pv (.slice Y108))), (5, (.pv (.int .i64)))], []⟩ y)) (fun y => κ.ret (SSh.mk' ⟨[(4, (.pv .bool))], []⟩ y))⟩,
  ⟨2, ⟨[(0, (.pv (.slice Y108))), (1, (.pv (.slice Y108))), (5, (.pv (.int .i64)))], []⟩, fun κ => F72_R2 (fun y => κ.exit 0 (SSh.mk' ⟨[], []⟩ y)) (fun y => κ.ret (SSh.mk' ⟨[(4, (.pv .bool))], []⟩ y))⟩]
theorem L72_5 : RoundEq E72 L72 L72[0] (nthLoop (codeOf Tryz.f72) 1) := fun κ N x => by kernel_rfl
theorem L72_2 : RoundEq E72 L72 L72[1] (nthLoop (codeOf Tryz.f72) 0) := fun κ N x => by kernel_rfl
theorem C72_ok : QuietOk Tryz.prog 72 C72 := tQ E72 L72 [nthLoop (codeOf Tryz.f72) 0, nthLoop (codeOf Tryz.f72) 1] Tryz.func72 ty_ok .nil (.cons L72[1] (by kernel_rfl) L72_2 (.cons L72[0] (by kernel_rfl) L72_5 .nil))
end Go.V
