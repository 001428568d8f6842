/- What functions of the program compute, printed by a program of ours. No condition. -/
import Derived.Test.YtmdhdagmebffjaaGreatDoorWSeen
namespace Go.V
open Go.Proofs
set_option maxRecDepth 100000
set_option linter.unusedVariables false
noncomputable def F116 (a0 : D72) (a1 : Int) : Option (Int × Unit) :=
 (cond (decide ((IntKind.wrap IntKind.i64 (a1 - (((List.length a0.2.2.1) : Nat) : Int))) < (0 : Int)))
 (some ((-(1 : Int)), ()))
 (some ((IntKind.wrap IntKind.i64 (a1 - (((List.length a0.2.2.1) : Nat) : Int))), ())))
noncomputable def C116 : Fun := ⟨[(.ro Y72), (.ro (.int .i64))], [((.int .i64), .z)], fun z => F116 z.1 z.2.1⟩
noncomputable def E116 : Env := ⟨13, tyTab tys, oneTab ones, fnTab [], false, [], [(4, [1], []), (99999, [4], [])], none, [], []⟩
noncomputable def L116 : List (LoopS (Int × Unit)) := []
theorem C116_ok : QuietOk Tryz.prog 116 C116 := tQ E116 L116 [] Tryz.func116 ty_ok .nil .nil
noncomputable def F147 (a0 : D74) (a1 : Int) : Option (Int × Unit) :=
 (Option.bind (F116 a0.2.2.1 a1) fun y0 =>
 (cond (decide (y0.1 < (0 : Int)))
 (some ((-(1 : Int)), ()))
 (some (y0.1, ()))))
noncomputable def C147 : Fun := ⟨[(.ro Y74), (.ro (.int .i64))], [((.int .i64), .z)], fun z => F147 z.1 z.2.1⟩
noncomputable def E147 : Env := ⟨12, tyTab tys, oneTab ones, fnTab [(116, C116)], false, [], [(4, [1], []), (99999, [4], [])], none, [], []⟩
noncomputable def L147 : List (LoopS (Int × Unit)) := []
theorem C147_ok : QuietOk Tryz.prog 147 C147 := tQ E147 L147 [] Tryz.func147 ty_ok (.cons C116_ok .nil) .nil
noncomputable def F113_R5 (e0_0 : Int × Unit → Option (Int × Unit)) (er_1 : Int × Unit → Option (Int × Unit)) (rec : List (D74) × Int × Int × Unit → Option (Int × Unit)) (x3 : List (D74) × Int × Int × Unit) : Option (Int × Unit) :=
 (cond (decide (x3.2.2.1 < (((List.length x3.1) : Nat) : Int)))
 (gd (decide ((0 : Int) ≤ x3.2.2.1))
 (Option.bind x3.1[(Int.toNat x3.2.2.1)]? fun y6 =>
 (Option.bind (F147 y6 x3.2.1) fun y7 =>
 (cond (decide (y7.1 < (0 : Int)))
 (er_1 ((-(1 : Int)), ()))
 (rec (x3.1, y7.1, (IntKind.wrap IntKind.i64 (x3.2.2.1 + (1 : Int))), ()))))))
 (e0_0 (x3.2.1, ())))
noncomputable def F113 (a0 : List (D74)) (a1 : Int) : Option (Int × Unit) :=
 (cond (decide ((IntKind.wrap IntKind.i64 (a1 - (((List.length a0) : Nat) : Int))) < (0 : Int)))
 (some ((-(1 : Int)), ()))
 (iter (F113_R5
 (fun y8 =>
 (some (y8.1, ())))
 (fun y9 =>
 (some (y9.1, ())))) fuel (a0, (IntKind.wrap IntKind.i64 (a1 - (((List.length a0) : Nat) : Int))), (0 : Int), ())))
noncomputable def C113 : Fun := ⟨[(.ro (.slice Y74)), (.ro (.int .i64))], [((.int .i64), .z)], fun z => F113 z.1 z.2.1⟩
noncomputable def E113 : Env := ⟨27, tyTab tys, oneTab ones, fnTab [(147, C147)], false, [], [(4, [0, 1], []), (5, [0, 1, 5], []), (6, [0, 1, 5], []), (7, [0, 1, 5], []), (10, [1], []), (100000, [1], []), (100001, [0, 1, 5], []), (99999, [4], [])], none, [], []⟩
noncomputable def L113 : List (LoopS (Int × Unit)) := [⟨5, ⟨[(0, (.pv (.slice Y74))), (1, (.pv (.int .i64))), (5, (.pv (.int .i64)))], []⟩, fun κ => F113_R5 (fun y => κ.exit 0 (SSh.mk' ⟨[(1, (.pv (.int .i64)))], []⟩ y)) (fun y => κ.ret (SSh.mk' ⟨[(4, (.pv (.int .i64)))], []⟩ y))⟩]
theorem L113_5 : RoundEq E113 L113 L113[0] (nthLoop (codeOf Tryz.f113) 0) := fun κ N x => by kernel_rfl
theorem C113_ok : QuietOk Tryz.prog 113 C113 := tQ E113 L113 [nthLoop (codeOf Tryz.f113) 0] Tryz.func113 ty_ok (.cons C147_ok .nil) (.cons L113[0] (by kernel_rfl) L113_5 .nil)
noncomputable def F76 (a0 : D70) (a1 : Int) : Option (Int × Unit) :=
 (Option.bind (F113 a0.2.1 a1) fun y0 =>
 (cond (decide (y0.1 < (0 : Int)))
 (some ((-(1 : Int)), ()))
 (some (y0.1, ()))))
noncomputable def C76 : Fun := ⟨[(.ro Y70), (.ro (.int .i64))], [((.int .i64), .z)], fun z => F76 z.1 z.2.1⟩
noncomputable def E76 : Env := ⟨12, tyTab tys, oneTab ones, fnTab [(113, C113)], false, [], [(4, [1], []), (99999, [4], [])], none, [], []⟩
noncomputable def L76 : List (LoopS (Int × Unit)) := []
theorem C76_ok : QuietOk Tryz.prog 76 C76 := tQ E76 L76 [] Tryz.func76 ty_ok (.cons C113_ok .nil) .nil
noncomputable def F47_R5 (e0_0 : Int × Unit → Option (Int × Unit)) (er_1 : Int × Unit → Option (Int × Unit)) (rec : List (D70) × Int × Int × Unit → Option (Int × Unit)) (x3 : List (D70) × Int × Int × Unit) : Option (Int × Unit) :=
 (cond (decide (x3.2.2.1 < (((List.length x3.1) : Nat) : Int)))
 (gd (decide ((0 : Int) ≤ x3.2.2.1))
 (Option.bind x3.1[(Int.toNat x3.2.2.1)]? fun y6 =>
 (Option.bind (F76 y6 x3.2.1) fun y7 =>
 (cond (decide (y7.1 < (0 : Int)))
 (er_1 ((-(1 : Int)), ()))
 (rec (x3.1, y7.1, (IntKind.wrap IntKind.i64 (x3.2.2.1 + (1 : Int))), ()))))))
 (e0_0 (x3.2.1, ())))
noncomputable def F47 (a0 : List (D70)) (a1 : Int) : Option (Int × Unit) :=
 (cond (decide ((IntKind.wrap IntKind.i64 (a1 - (((List.length a0) : Nat) : Int))) < (0 : Int)))
 (some ((-(1 : Int)), ()))
 (iter (F47_R5
 (fun y8 =>
 (some (y8.1, ())))
 (fun y9 =>
 (some (y9.1, ())))) fuel (a0, (IntKind.wrap IntKind.i64 (a1 - (((List.length a0) : Nat) : Int))), (0 : Int), ())))
noncomputable def C47 : Fun := ⟨[(.ro (.slice Y70)), (.ro (.int .i64))], [((.int .i64), .z)], fun z => F47 z.1 z.2.1⟩
noncomputable def E47 : Env := ⟨27, tyTab tys, oneTab ones, fnTab [(76, C76)], false, [], [(4, [0, 1], []), (5, [0, 1, 5], []), (6, [0, 1, 5], []), (7, [0, 1, 5], []), (10, [1], []), (100000, [1], []), (100001, [0, 1, 5], []), (99999, [4], [])], none, [], []⟩
noncomputable def L47 : List (LoopS (Int × Unit)) := [⟨5, ⟨[(0, (.pv (.slice Y70))), (1, (.pv (.int .i64))), (5, (.pv (.int .i64)))], []⟩, fun κ => F47_R5 (fun y => κ.exit 0 (SSh.mk' ⟨[(1, (.pv (.int .i64)))], []⟩ y)) (fun y => κ.ret (SSh.mk' ⟨[(4, (.pv (.int .i64)))], []⟩ y))⟩]
theorem L47_5 : RoundEq E47 L47 L47[0] (nthLoop (codeOf Tryz.f47) 0) := fun κ N x => by kernel_rfl
theorem C47_ok : QuietOk Tryz.prog 47 C47 := tQ E47 L47 [nthLoop (codeOf Tryz.f47) 0] Tryz.func47 ty_ok (.cons C76_ok .nil) (.cons L47[0] (by kernel_rfl) L47_5 .nil)
noncomputable def F148 (a0 : D187) (a1 : Int) : Option (Int × Unit) :=
 (cond (decide ((IntKind.wrap IntKind.i64 (a1 - (((List.length a0.1) : Nat) : Int))) < (0 : Int)))
 (some ((-(1 : Int)), ()))
 (some ((IntKind.wrap IntKind.i64 (a1 - (((List.length a0.1) : Nat) : Int))), ())))
noncomputable def C148 : Fun := ⟨[(.ro Y187), (.ro (.int .i64))], [((.int .i64), .z)], fun z => F148 z.1 z.2.1⟩
noncomputable def E148 : Env := ⟨13, tyTab tys, oneTab ones, fnTab [], false, [], [(4, [1], []), (99999, [4], [])], none, [], []⟩
noncomputable def L148 : List (LoopS (Int × Unit)) := []
theorem C148_ok : QuietOk Tryz.prog 148 C148 := tQ E148 L148 [] Tryz.func148 ty_ok .nil .nil
noncomputable def F114_R5 (e0_0 : Int × Unit → Option (Int × Unit)) (er_1 : Int × Unit → Option (Int × Unit)) (rec : List (D187) × Int × Int × Unit → Option (Int × Unit)) (x3 : List (D187) × Int × Int × Unit) : Option (Int × Unit) :=
 (cond (decide (x3.2.2.1 < (((List.length x3.1) : Nat) : Int)))
 (gd (decide ((0 : Int) ≤ x3.2.2.1))
 (Option.bind x3.1[(Int.toNat x3.2.2.1)]? fun y6 =>
 (Option.bind (F148 y6 x3.2.1) fun y7 =>
 (cond (decide (y7.1 < (0 : Int)))
 (er_1 ((-(1 : Int)), ()))
 (rec (x3.1, y7.1, (IntKind.wrap IntKind.i64 (x3.2.2.1 + (1 : Int))), ()))))))
 (e0_0 (x3.2.1, ())))
noncomputable def F114 (a0 : List (D187)) (a1 : Int) : Option (Int × Unit) :=
 (cond (decide ((IntKind.wrap IntKind.i64 (a1 - (((List.length a0) : Nat) : Int))) < (0 : Int)))
 (some ((-(1 : Int)), ()))
 (iter (F114_R5
 (fun y8 =>
 (some (y8.1, ())))
 (fun y9 =>
 (some (y9.1, ())))) fuel (a0, (IntKind.wrap IntKind.i64 (a1 - (((List.length a0) : Nat) : Int))), (0 : Int), ())))
noncomputable def C114 : Fun := ⟨[(.ro (.slice Y187)), (.ro (.int .i64))], [((.int .i64), .z)], fun z => F114 z.1 z.2.1⟩
noncomputable def E114 : Env := ⟨27, tyTab tys, oneTab ones, fnTab [(148, C148)], false, [], [(4, [0, 1], []), (5, [0, 1, 5], []), (6, [0, 1, 5], []), (7, [0, 1, 5], []), (10, [1], []), (100000, [1], []), (100001, [0, 1, 5], []), (99999, [4], [])], none, [], []⟩
noncomputable def L114 : List (LoopS (Int × Unit)) := [⟨5, ⟨[(0, (.pv (.slice Y187))), (1, (.pv (.int .i64))), (5, (.pv (.int .i64)))], []⟩, fun κ => F114_R5 (fun y => κ.exit 0 (SSh.mk' ⟨[(1, (.pv (.int .i64)))], []⟩ y)) (fun y => κ.ret (SSh.mk' ⟨[(4, (.pv (.int .i64)))], []⟩ y))⟩]
theorem L114_5 : RoundEq E114 L114 L114[0] (nthLoop (codeOf Tryz.f114) 0) := fun κ N x => by kernel_rfl
theorem C114_ok : QuietOk Tryz.prog 114 C114 := tQ E114 L114 [nthLoop (codeOf Tryz.f114) 0] Tryz.func114 ty_ok (.cons C148_ok .nil) (.cons L114[0] (by kernel_rfl) L114_5 .nil)
noncomputable def F77 (a0 : D137) (a1 : Int) : Option (Int × Unit) :=
 (cond (decide ((IntKind.wrap IntKind.i64 (a1 - (((List.length a0.1) : Nat) : Int))) < (0 : Int)))
 (some ((-(1 : Int)), ()))
 (Option.bind (F114 a0.2.1 (IntKind.wrap IntKind.i64 (a1 - (((List.length a0.1) : Nat) : Int)))) fun y1 =>
 (cond (decide (y1.1 < (0 : Int)))
 (some ((-(1 : Int)), ()))
 (some (y1.1, ())))))
noncomputable def C77 : Fun := ⟨[(.ro Y137), (.ro (.int .i64))], [((.int .i64), .z)], fun z => F77 z.1 z.2.1⟩
noncomputable def E77 : Env := ⟨19, tyTab tys, oneTab ones, fnTab [(114, C114)], false, [], [(4, [1, 2], []), (7, [1], []), (99999, [4], [])], none, [], []⟩
noncomputable def L77 : List (LoopS (Int × Unit)) := []
theorem C77_ok : QuietOk Tryz.prog 77 C77 := tQ E77 L77 [] Tryz.func77 ty_ok (.cons C114_ok .nil) .nil
noncomputable def F48_R5 (e0_0 : Int × Unit → Option (Int × Unit)) (er_1 : Int × Unit → Option (Int × Unit)) (rec : List (D137) × Int × Int × Unit → Option (Int × Unit)) (x3 : List (D137) × Int × Int × Unit) : Option (Int × Unit) :=
 (cond (decide (x3.2.2.1 < (((List.length x3.1) : Nat) : Int)))
 (gd (decide ((0 : Int) ≤ x3.2.2.1))
 (Option.bind x3.1[(Int.toNat x3.2.2.1)]? fun y6 =>
 (Option.bind (F77 y6 x3.2.1) fun y7 =>
 (cond (decide (y7.1 < (0 : Int)))
 (er_1 ((-(1 : Int)), ()))
 (rec (x3.1, y7.1, (IntKind.wrap IntKind.i64 (x3.2.2.1 + (1 : Int))), ()))))))
 (e0_0 (x3.2.1, ())))
noncomputable def F48 (a0 : List (D137)) (a1 : Int) : Option (Int × Unit) :=
 (cond (decide ((IntKind.wrap IntKind.i64 (a1 - (((List.length a0) : Nat) : Int))) < (0 : Int)))
 (some ((-(1 : Int)), ()))
 (iter (F48_R5
 (fun y8 =>
 (some (y8.1, ())))
 (fun y9 =>
 (some (y9.1, ())))) fuel (a0, (IntKind.wrap IntKind.i64 (a1 - (((List.length a0) : Nat) : Int))), (0 : Int), ())))
noncomputable def C48 : Fun := ⟨[(.ro (.slice Y137)), (.ro (.int .i64))], [((.int .i64), .z)], fun z => F48 z.1 z.2.1⟩
noncomputable def E48 : Env := ⟨27, tyTab tys, oneTab ones, fnTab [(77, C77)], false, [], [(4, [0, 1], []), (5, [0, 1, 5], []), (6, [0, 1, 5], []), (7, [0, 1, 5], []), (10, [1], []), (100000, [1], []), (100001, [0, 1, 5], []), (99999, [4], [])], none, [], []⟩
noncomputable def L48 : List (LoopS (Int × Unit)) := [⟨5, ⟨[(0, (.pv (.slice Y137))), (1, (.pv (.int .i64))), (5, (.pv (.int .i64)))], []⟩, fun κ => F48_R5 (fun y => κ.exit 0 (SSh.mk' ⟨[(1, (.pv (.int .i64)))], []⟩ y)) (fun y => κ.ret (SSh.mk' ⟨[(4, (.pv (.int .i64)))], []⟩ y))⟩]
theorem L48_5 : RoundEq E48 L48 L48[0] (nthLoop (codeOf Tryz.f48) 0) := fun κ N x => by kernel_rfl
theorem C48_ok : QuietOk Tryz.prog 48 C48 := tQ E48 L48 [nthLoop (codeOf Tryz.f48) 0] Tryz.func48 ty_ok (.cons C77_ok .nil) (.cons L48[0] (by kernel_rfl) L48_5 .nil)
noncomputable def F22 (a0 : D51) (a1 : Int) : Option (Int × Unit) :=
 (cond (decide ((IntKind.wrap IntKind.i64 (a1 - (((List.length a0.1) : Nat) : Int))) < (0 : Int)))
 (some ((-(1 : Int)), ()))
 (Option.bind (F47 a0.2.1 (IntKind.wrap IntKind.i64 (a1 - (((List.length a0.1) : Nat) : Int)))) fun y1 =>
 (cond (decide (y1.1 < (0 : Int)))
 (some ((-(1 : Int)), ()))
 (Option.bind (F48 a0.2.2.1 y1.1) fun y3 =>
 (cond (decide (y3.1 < (0 : Int)))
 (some ((-(1 : Int)), ()))
 (some (y3.1, ())))))))
noncomputable def C22 : Fun := ⟨[(.ro Y51), (.ro (.int .i64))], [((.int .i64), .z)], fun z => F22 z.1 z.2.1⟩
noncomputable def E22 : Env := ⟨25, tyTab tys, oneTab ones, fnTab [(47, C47), (48, C48)], false, [], [(4, [1, 2], []), (7, [1, 2], []), (10, [1], []), (99999, [4], [])], none, [], []⟩
noncomputable def L22 : List (LoopS (Int × Unit)) := []
theorem C22_ok : QuietOk Tryz.prog 22 C22 := tQ E22 L22 [] Tryz.func22 ty_ok (.cons C47_ok (.cons C48_ok .nil)) .nil
noncomputable def F9_R5 (e0_0 : Int × Unit → Option (Int × Unit)) (er_1 : Int × Unit → Option (Int × Unit)) (rec : List (D51) × Int × Int × Unit → Option (Int × Unit)) (x3 : List (D51) × Int × Int × Unit) : Option (Int × Unit) :=
 (cond (decide (x3.2.2.1 < (((List.length x3.1) : Nat) : Int)))
 (gd (decide ((0 : Int) ≤ x3.2.2.1))
 (Option.bind x3.1[(Int.toNat x3.2.2.1)]? fun y6 =>
 (Option.bind (F22 y6 x3.2.1) fun y7 =>
 (cond (decide (y7.1 < (0 : Int)))
 (er_1 ((-(1 : Int)), ()))
 (rec (x3.1, y7.1, (IntKind.wrap IntKind.i64 (x3.2.2.1 + (1 : Int))), ()))))))
 (e0_0 (x3.2.1, ())))
noncomputable def F9 (a0 : List (D51)) (a1 : Int) : Option (Int × Unit) :=
 (cond (decide ((IntKind.wrap IntKind.i64 (a1 - (((List.length a0) : Nat) : Int))) < (0 : Int)))
 (some ((-(1 : Int)), ()))
 (iter (F9_R5
 (fun y8 =>
 (some (y8.1, ())))
 (fun y9 =>
 (some (y9.1, ())))) fuel (a0, (IntKind.wrap IntKind.i64 (a1 - (((List.length a0) : Nat) : Int))), (0 : Int), ())))
noncomputable def C9 : Fun := ⟨[(.ro (.slice Y51)), (.ro (.int .i64))], [((.int .i64), .z)], fun z => F9 z.1 z.2.1⟩
noncomputable def E9 : Env := ⟨27, tyTab tys, oneTab ones, fnTab [(22, C22)], false, [], [(4, [0, 1], []), (5, [0, 1, 5], []), (6, [0, 1, 5], []), (7, [0, 1, 5], []), (10, [1], []), (100000, [1], []), (100001, [0, 1, 5], []), (99999, [4], [])], none, [], []⟩
noncomputable def L9 : List (LoopS (Int × Unit)) := [⟨5, ⟨[(0, (.pv (.slice Y51))), (1, (.pv (.int .i64))), (5, (.pv (.int .i64)))], []⟩, fun κ => F9_R5 (fun y => κ.exit 0 (SSh.mk' ⟨[(1, (.pv (.int .i64)))], []⟩ y)) (fun y => κ.ret (SSh.mk' ⟨[(4, (.pv (.int .i64)))], []⟩ y))⟩]
theorem L9_5 : RoundEq E9 L9 L9[0] (nthLoop (codeOf Tryz.f9) 0) := fun κ N x => by kernel_rfl
theorem C9_ok : QuietOk Tryz.prog 9 C9 := tQ E9 L9 [nthLoop (codeOf Tryz.f9) 0] Tryz.func9 ty_ok (.cons C22_ok .nil) (.cons L9[0] (by kernel_rfl) L9_5 .nil)
noncomputable def F200 (a0 : D195) (a1 : Int) : Option (Int × Unit) :=
 (cond (decide ((IntKind.wrap IntKind.i64 (a1 - (((List.length a0.2.1) : Nat) : Int))) < (0 : Int)))
 (some ((-(1 : Int)), ()))
 (Option.bind (F116 a0.2.2.1 (IntKind.wrap IntKind.i64 (a1 - (((List.length a0.2.1) : Nat) : Int)))) fun y1 =>
 (cond (decide (y1.1 < (0 : Int)))
 (some ((-(1 : Int)), ()))
 (some (y1.1, ())))))
noncomputable def C200 : Fun := ⟨[(.ro Y195), (.ro (.int .i64))], [((.int .i64), .z)], fun z => F200 z.1 z.2.1⟩
noncomputable def E200 : Env := ⟨19, tyTab tys, oneTab ones, fnTab [(116, C116)], false, [], [(4, [1, 2], []), (7, [1], []), (99999, [4], [])], none, [], []⟩
noncomputable def L200 : List (LoopS (Int × Unit)) := []
theorem C200_ok : QuietOk Tryz.prog 200 C200 := tQ E200 L200 [] Tryz.func200 ty_ok (.cons C116_ok .nil) .nil
noncomputable def F188_R5 (e0_0 : Int × Unit → Option (Int × Unit)) (er_1 : Int × Unit → Option (Int × Unit)) (rec : List (D195) × Int × Int × Unit → Option (Int × Unit)) (x3 : List (D195) × Int × Int × Unit) : Option (Int × Unit) :=
 (cond (decide (x3.2.2.1 < (((List.length x3.1) : Nat) : Int)))
 (gd (decide ((0 : Int) ≤ x3.2.2.1))
 (Option.bind x3.1[(Int.toNat x3.2.2.1)]? fun y6 =>
 (Option.bind (F200 y6 x3.2.1) fun y7 =>
 (cond (decide (y7.1 < (0 : Int)))
 (er_1 ((-(1 : Int)), ()))
 (rec (x3.1, y7.1, (IntKind.wrap IntKind.i64 (x3.2.2.1 + (1 : Int))), ()))))))
 (e0_0 (x3.2.1, ())))
noncomputable def F188 (a0 : List (D195)) (a1 : Int) : Option (Int × Unit) :=
 (cond (decide ((IntKind.wrap IntKind.i64 (a1 - (((List.length a0) : Nat) : Int))) < (0 : Int)))
 (some ((-(1 : Int)), ()))
 (iter (F188_R5
 (fun y8 =>
 (some (y8.1, ())))
 (fun y9 =>
 (some (y9.1, ())))) fuel (a0, (IntKind.wrap IntKind.i64 (a1 - (((List.length a0) : Nat) : Int))), (0 : Int), ())))
noncomputable def C188 : Fun := ⟨[(.ro (.slice Y195)), (.ro (.int .i64))], [((.int .i64), .z)], fun z => F188 z.1 z.2.1⟩
noncomputable def E188 : Env := ⟨27, tyTab tys, oneTab ones, fnTab [(200, C200)], false, [], [(4, [0, 1], []), (5, [0, 1, 5], []), (6, [0, 1, 5], []), (7, [0, 1, 5], []), (10, [1], []), (100000, [1], []), (100001, [0, 1, 5], []), (99999, [4], [])], none, [], []⟩
noncomputable def L188 : List (LoopS (Int × Unit)) := [⟨5, ⟨[(0, (.pv (.slice Y195))), (1, (.pv (.int .i64))), (5, (.pv (.int .i64)))], []⟩, fun κ => F188_R5 (fun y => κ.exit 0 (SSh.mk' ⟨[(1, (.pv (.int .i64)))], []⟩ y)) (fun y => κ.ret (SSh.mk' ⟨[(4, (.pv (.int .i64)))], []⟩ y))⟩]
theorem L188_5 : RoundEq E188 L188 L188[0] (nthLoop (codeOf Tryz.f188) 0) := fun κ N x => by kernel_rfl
theorem C188_ok : QuietOk Tryz.prog 188 C188 := tQ E188 L188 [nthLoop (codeOf Tryz.f188) 0] Tryz.func188 ty_ok (.cons C200_ok .nil) (.cons L188[0] (by kernel_rfl) L188_5 .nil)
noncomputable def F170 (a0 : D192) (a1 : Int) : Option (Int × Unit) :=
 (Option.bind (F188 a0.1 a1) fun y0 =>
 (cond (decide (y0.1 < (0 : Int)))
 (some ((-(1 : Int)), ()))
 (some (y0.1, ()))))
noncomputable def C170 : Fun := ⟨[(.ro Y192), (.ro (.int .i64))], [((.int .i64), .z)], fun z => F170 z.1 z.2.1⟩
noncomputable def E170 : Env := ⟨12, tyTab tys, oneTab ones, fnTab [(188, C188)], false, [], [(4, [1], []), (99999, [4], [])], none, [], []⟩
noncomputable def L170 : List (LoopS (Int × Unit)) := []
theorem C170_ok : QuietOk Tryz.prog 170 C170 := tQ E170 L170 [] Tryz.func170 ty_ok (.cons C188_ok .nil) .nil
noncomputable def F149_R5 (e0_0 : Int × Unit → Option (Int × Unit)) (er_1 : Int × Unit → Option (Int × Unit)) (rec : List (D192) × Int × Int × Unit → Option (Int × Unit)) (x3 : List (D192) × Int × Int × Unit) : Option (Int × Unit) :=
 (cond (decide (x3.2.2.1 < (((List.length x3.1) : Nat) : Int)))
 (gd (decide ((0 : Int) ≤ x3.2.2.1))
 (Option.bind x3.1[(Int.toNat x3.2.2.1)]? fun y6 =>
 (Option.bind (F170 y6 x3.2.1) fun y7 =>
 (cond (decide (y7.1 < (0 : Int)))
 (er_1 ((-(1 : Int)), ()))
 (rec (x3.1, y7.1, (IntKind.wrap IntKind.i64 (x3.2.2.1 + (1 : Int))), ()))))))
 (e0_0 (x3.2.1, ())))
noncomputable def F149 (a0 : List (D192)) (a1 : Int) : Option (Int × Unit) :=
 (cond (decide ((IntKind.wrap IntKind.i64 (a1 - (((List.length a0) : Nat) : Int))) < (0 : Int)))
 (some ((-(1 : Int)), ()))
 (iter (F149_R5
 (fun y8 =>
 (some (y8.1, ())))
 (fun y9 =>
 (some (y9.1, ())))) fuel (a0, (IntKind.wrap IntKind.i64 (a1 - (((List.length a0) : Nat) : Int))), (0 : Int), ())))
noncomputable def C149 : Fun := ⟨[(.ro (.slice Y192)), (.ro (.int .i64))], [((.int .i64), .z)], fun z => F149 z.1 z.2.1⟩
noncomputable def E149 : Env := ⟨27, tyTab tys, oneTab ones, fnTab [(170, C170)], false, [], [(4, [0, 1], []), (5, [0, 1, 5], []), (6, [0, 1, 5], []), (7, [0, 1, 5], []), (10, [1], []), (100000, [1], []), (100001, [0, 1, 5], []), (99999, [4], [])], none, [], []⟩
noncomputable def L149 : List (LoopS (Int × Unit)) := [⟨5, ⟨[(0, (.pv (.slice Y192))), (1, (.pv (.int .i64))), (5, (.pv (.int .i64)))], []⟩, fun κ => F149_R5 (fun y => κ.exit 0 (SSh.mk' ⟨[(1, (.pv (.int .i64)))], []⟩ y)) (fun y => κ.ret (SSh.mk' ⟨[(4, (.pv (.int .i64)))], []⟩ y))⟩]
theorem L149_5 : RoundEq E149 L149 L149[0] (nthLoop (codeOf Tryz.f149) 0) := fun κ N x => by kernel_rfl
theorem C149_ok : QuietOk Tryz.prog 149 C149 := tQ E149 L149 [nthLoop (codeOf Tryz.f149) 0] Tryz.func149 ty_ok (.cons C170_ok .nil) (.cons L149[0] (by kernel_rfl) L149_5 .nil)
noncomputable def F115 (a0 : D109) (a1 : Int) : Option (Int × Unit) :=
 (Option.bind (F149 a0.1 a1) fun y0 =>
 (cond (decide (y0.1 < (0 : Int)))
 (some ((-(1 : Int)), ()))
 (some (y0.1, ()))))
noncomputable def C115 : Fun := ⟨[(.ro Y109), (.ro (.int .i64))], [((.int .i64), .z)], fun z => F115 z.1 z.2.1⟩
noncomputable def E115 : Env := ⟨12, tyTab tys, oneTab ones, fnTab [(149, C149)], false, [], [(4, [1], []), (99999, [4], [])], none, [], []⟩
noncomputable def L115 : List (LoopS (Int × Unit)) := []
theorem C115_ok : QuietOk Tryz.prog 115 C115 := tQ E115 L115 [] Tryz.func115 ty_ok (.cons C149_ok .nil) .nil
noncomputable def F78 (a0 : D111) (a1 : Int) : Option (Int × Unit) :=
 (cond (decide ((IntKind.wrap IntKind.i64 (a1 - (((List.length a0.1) : Nat) : Int))) < (0 : Int)))
 (some ((-(1 : Int)), ()))
 (Option.bind (F115 a0.2.1 (IntKind.wrap IntKind.i64 (a1 - (((List.length a0.1) : Nat) : Int)))) fun y1 =>
 (cond (decide (y1.1 < (0 : Int)))
 (some ((-(1 : Int)), ()))
 (some (y1.1, ())))))
noncomputable def C78 : Fun := ⟨[(.ro Y111), (.ro (.int .i64))], [((.int .i64), .z)], fun z => F78 z.1 z.2.1⟩
noncomputable def E78 : Env := ⟨19, tyTab tys, oneTab ones, fnTab [(115, C115)], false, [], [(4, [1, 2], []), (7, [1], []), (99999, [4], [])], none, [], []⟩
noncomputable def L78 : List (LoopS (Int × Unit)) := []
theorem C78_ok : QuietOk Tryz.prog 78 C78 := tQ E78 L78 [] Tryz.func78 ty_ok (.cons C115_ok .nil) .nil
noncomputable def F49_R5 (e0_0 : Int × Unit → Option (Int × Unit)) (er_1 : Int × Unit → Option (Int × Unit)) (rec : List (D111) × Int × Int × Unit → Option (Int × Unit)) (x3 : List (D111) × Int × Int × Unit) : Option (Int × Unit) :=
 (cond (decide (x3.2.2.1 < (((List.length x3.1) : Nat) : Int)))
 (gd (decide ((0 : Int) ≤ x3.2.2.1))
 (Option.bind x3.1[(Int.toNat x3.2.2.1)]? fun y6 =>
 (Option.bind (F78 y6 x3.2.1) fun y7 =>
 (cond (decide (y7.1 < (0 : Int)))
 (er_1 ((-(1 : Int)), ()))
 (rec (x3.1, y7.1, (IntKind.wrap IntKind.i64 (x3.2.2.1 + (1 : Int))), ()))))))
 (e0_0 (x3.2.1, ())))
noncomputable def F49 (a0 : List (D111)) (a1 : Int) : Option (Int × Unit) :=
 (cond (decide ((IntKind.wrap IntKind.i64 (a1 - (((List.length a0) : Nat) : Int))) < (0 : Int)))
 (some ((-(1 : Int)), ()))
 (iter (F49_R5
 (fun y8 =>
 (some (y8.1, ())))
 (fun y9 =>
 (some (y9.1, ())))) fuel (a0, (IntKind.wrap IntKind.i64 (a1 - (((List.length a0) : Nat) : Int))), (0 : Int), ())))
noncomputable def C49 : Fun := ⟨[(.ro (.slice Y111)), (.ro (.int .i64))], [((.int .i64), .z)], fun z => F49 z.1 z.2.1⟩
noncomputable def E49 : Env := ⟨27, tyTab tys, oneTab ones, fnTab [(78, C78)], false, [], [(4, [0, 1], []), (5, [0, 1, 5], []), (6, [0, 1, 5], []), (7, [0, 1, 5], []), (10, [1], []), (100000, [1], []), (100001, [0, 1, 5], []), (99999, [4], [])], none, [], []⟩
noncomputable def L49 : List (LoopS (Int × Unit)) := [⟨5, ⟨[(0, (.pv (.slice Y111))), (1, (.pv (.int .i64))), (5, (.pv (.int .i64)))], []⟩, fun κ => F49_R5 (fun y => κ.exit 0 (SSh.mk' ⟨[(1, (.pv (.int .i64)))], []⟩ y)) (fun y => κ.ret (SSh.mk' ⟨[(4, (.pv (.int .i64)))], []⟩ y))⟩]
theorem L49_5 : RoundEq E49 L49 L49[0] (nthLoop (codeOf Tryz.f49) 0) := fun κ N x => by kernel_rfl
theorem C49_ok : QuietOk Tryz.prog 49 C49 := tQ E49 L49 [nthLoop (codeOf Tryz.f49) 0] Tryz.func49 ty_ok (.cons C78_ok .nil) (.cons L49[0] (by kernel_rfl) L49_5 .nil)
noncomputable def F79 (a0 : D82) (a1 : Int) : Option (Int × Unit) :=
 (cond (decide ((IntKind.wrap IntKind.i64 (a1 - (((List.length a0.1) : Nat) : Int))) < (0 : Int)))
 (some ((-(1 : Int)), ()))
 (Option.bind (F116 a0.2.2.2.1 (IntKind.wrap IntKind.i64 (a1 - (((List.length a0.1) : Nat) : Int)))) fun y1 =>
 (cond (decide (y1.1 < (0 : Int)))
 (some ((-(1 : Int)), ()))
 (some (y1.1, ())))))
noncomputable def C79 : Fun := ⟨[(.ro Y82), (.ro (.int .i64))], [((.int .i64), .z)], fun z => F79 z.1 z.2.1⟩
noncomputable def E79 : Env := ⟨19, tyTab tys, oneTab ones, fnTab [(116, C116)], false, [], [(4, [1, 2], []), (7, [1], []), (99999, [4], [])], none, [], []⟩
noncomputable def L79 : List (LoopS (Int × Unit)) := []
theorem C79_ok : QuietOk Tryz.prog 79 C79 := tQ E79 L79 [] Tryz.func79 ty_ok (.cons C116_ok .nil) .nil
noncomputable def F50_R5 (e0_0 : Int × Unit → Option (Int × Unit)) (er_1 : Int × Unit → Option (Int × Unit)) (rec : List (D82) × Int × Int × Unit → Option (Int × Unit)) (x3 : List (D82) × Int × Int × Unit) : Option (Int × Unit) :=
 (cond (decide (x3.2.2.1 < (((List.length x3.1) : Nat) : Int)))
 (gd (decide ((0 : Int) ≤ x3.2.2.1))
 (Option.bind x3.1[(Int.toNat x3.2.2.1)]? fun y6 =>
 (Option.bind (F79 y6 x3.2.1) fun y7 =>
 (cond (decide (y7.1 < (0 : Int)))
 (er_1 ((-(1 : Int)), ()))
 (rec (x3.1, y7.1, (IntKind.wrap IntKind.i64 (x3.2.2.1 + (1 : Int))), ()))))))
 (e0_0 (x3.2.1, ())))
noncomputable def F50 (a0 : List (D82)) (a1 : Int) : Option (Int × Unit) :=
 (cond (decide ((IntKind.wrap IntKind.i64 (a1 - (((List.length a0) : Nat) : Int))) < (0 : Int)))
 (some ((-(1 : Int)), ()))
 (iter (F50_R5
 (fun y8 =>
 (some (y8.1, ())))
 (fun y9 =>
 (some (y9.1, ())))) fuel (a0, (IntKind.wrap IntKind.i64 (a1 - (((List.length a0) : Nat) : Int))), (0 : Int), ())))
noncomputable def C50 : Fun := ⟨[(.ro (.slice Y82)), (.ro (.int .i64))], [((.int .i64), .z)], fun z => F50 z.1 z.2.1⟩
noncomputable def E50 : Env := ⟨27, tyTab tys, oneTab ones, fnTab [(79, C79)], false, [], [(4, [0, 1], []), (5, [0, 1, 5], []), (6, [0, 1, 5], []), (7, [0, 1, 5], []), (10, [1], []), (100000, [1], []), (100001, [0, 1, 5], []), (99999, [4], [])], none, [], []⟩
noncomputable def L50 : List (LoopS (Int × Unit)) := [⟨5, ⟨[(0, (.pv (.slice Y82))), (1, (.pv (.int .i64))), (5, (.pv (.int .i64)))], []⟩, fun κ => F50_R5 (fun y => κ.exit 0 (SSh.mk' ⟨[(1, (.pv (.int .i64)))], []⟩ y)) (fun y => κ.ret (SSh.mk' ⟨[(4, (.pv (.int .i64)))], []⟩ y))⟩]
theorem L50_5 : RoundEq E50 L50 L50[0] (nthLoop (codeOf Tryz.f50) 0) := fun κ N x => by kernel_rfl
theorem C50_ok : QuietOk Tryz.prog 50 C50 := tQ E50 L50 [nthLoop (codeOf Tryz.f50) 0] Tryz.func50 ty_ok (.cons C79_ok .nil) (.cons L50[0] (by kernel_rfl) L50_5 .nil)
noncomputable def F23 (a0 : D56) (a1 : Int) : Option (Int × Unit) :=
 (Option.bind (F49 a0.2.2.1 a1) fun y0 =>
 (cond (decide (y0.1 < (0 : Int)))
 (some ((-(1 : Int)), ()))
 (Option.bind (F50 a0.2.2.2.1 y0.1) fun y2 =>
 (cond (decide (y2.1 < (0 : Int)))
 (some ((-(1 : Int)), ()))
 (some (y2.1, ()))))))
noncomputable def C23 : Fun := ⟨[(.ro Y56), (.ro (.int .i64))], [((.int .i64), .z)], fun z => F23 z.1 z.2.1⟩
noncomputable def E23 : Env := ⟨18, tyTab tys, oneTab ones, fnTab [(49, C49), (50, C50)], false, [], [(4, [1, 2], []), (7, [1], []), (99999, [4], [])], none, [], []⟩
noncomputable def L23 : List (LoopS (Int × Unit)) := []
theorem C23_ok : QuietOk Tryz.prog 23 C23 := tQ E23 L23 [] Tryz.func23 ty_ok (.cons C49_ok (.cons C50_ok .nil)) .nil
noncomputable def F10_R5 (e0_0 : Int × Unit → Option (Int × Unit)) (er_1 : Int × Unit → Option (Int × Unit)) (rec : List (D56) × Int × Int × Unit → Option (Int × Unit)) (x3 : List (D56) × Int × Int × Unit) : Option (Int × Unit) :=
 (cond (decide (x3.2.2.1 < (((List.length x3.1) : Nat) : Int)))
 (gd (decide ((0 : Int) ≤ x3.2.2.1))
 (Option.bind x3.1[(Int.toNat x3.2.2.1)]? fun y6 =>
 (Option.bind (F23 y6 x3.2.1) fun y7 =>
 (cond (decide (y7.1 < (0 : Int)))
 (er_1 ((-(1 : Int)), ()))
 (rec (x3.1, y7.1, (IntKind.wrap IntKind.i64 (x3.2.2.1 + (1 : Int))), ()))))))
 (e0_0 (x3.2.1, ())))
noncomputable def F10 (a0 : List (D56)) (a1 : Int) : Option (Int × Unit) :=
 (cond (decide ((IntKind.wrap IntKind.i64 (a1 - (((List.length a0) : Nat) : Int))) < (0 : Int)))
 (some ((-(1 : Int)), ()))
 (iter (F10_R5
 (fun y8 =>
 (some (y8.1, ())))
 (fun y9 =>
 (some (y9.1, ())))) fuel (a0, (IntKind.wrap IntKind.i64 (a1 - (((List.length a0) : Nat) : Int))), (0 : Int), ())))
noncomputable def C10 : Fun := ⟨[(.ro (.slice Y56)), (.ro (.int .i64))], [((.int .i64), .z)], fun z => F10 z.1 z.2.1⟩
noncomputable def E10 : Env := ⟨27, tyTab tys, oneTab ones, fnTab [(23, C23)], false, [], [(4, [0, 1], []), (5, [0, 1, 5], []), (6, [0, 1, 5], []), (7, [0, 1, 5], []), (10, [1], []), (100000, [1], []), (100001, [0, 1, 5], []), (99999, [4], [])], none, [], []⟩
noncomputable def L10 : List (LoopS (Int × Unit)) := [⟨5, ⟨[(0, (.pv (.slice Y56))), (1, (.pv (.int .i64))), (5, (.pv (.int .i64)))], []⟩, fun κ => F10_R5 (fun y => κ.exit 0 (SSh.mk' ⟨[(1, (.pv (.int .i64)))], []⟩ y)) (fun y => κ.ret (SSh.mk' ⟨[(4, (.pv (.int .i64)))], []⟩ y))⟩]
theorem L10_5 : RoundEq E10 L10 L10[0] (nthLoop (codeOf Tryz.f10) 0) := fun κ N x => by kernel_rfl
theorem C10_ok : QuietOk Tryz.prog 10 C10 := tQ E10 L10 [nthLoop (codeOf Tryz.f10) 0] Tryz.func10 ty_ok (.cons C23_ok .nil) (.cons L10[0] (by kernel_rfl) L10_5 .nil)
noncomputable def F80 (a0 : D150) (a1 : Int) : Option (Int × Unit) :=
 (Option.bind (F79 a0.1 a1) fun y0 =>
 (cond (decide (y0.1 < (0 : Int)))
 (some ((-(1 : Int)), ()))
 (Option.bind (F116 a0.2.1 y0.1) fun y2 =>
 (cond (decide (y2.1 < (0 : Int)))
 (some ((-(1 : Int)), ()))
 (some (y2.1, ()))))))
noncomputable def C80 : Fun := ⟨[(.ro Y150), (.ro (.int .i64))], [((.int .i64), .z)], fun z => F80 z.1 z.2.1⟩
noncomputable def E80 : Env := ⟨18, tyTab tys, oneTab ones, fnTab [(79, C79), (116, C116)], false, [], [(4, [1, 2], []), (7, [1], []), (99999, [4], [])], none, [], []⟩
noncomputable def L80 : List (LoopS (Int × Unit)) := []
theorem C80_ok : QuietOk Tryz.prog 80 C80 := tQ E80 L80 [] Tryz.func80 ty_ok (.cons C79_ok (.cons C116_ok .nil)) .nil
noncomputable def F51_R5 (e0_0 : Int × Unit → Option (Int × Unit)) (er_1 : Int × Unit → Option (Int × Unit)) (rec : List (D150) × Int × Int × Unit → Option (Int × Unit)) (x3 : List (D150) × Int × Int × Unit) : Option (Int × Unit) :=
 (cond (decide (x3.2.2.1 < (((List.length x3.1) : Nat) : Int)))
 (gd (decide ((0 : Int) ≤ x3.2.2.1))
 (Option.bind x3.1[(Int.toNat x3.2.2.1)]? fun y6 =>
 (Option.bind (F80 y6 x3.2.1) fun y7 =>
 (cond (decide (y7.1 < (0 : Int)))
 (er_1 ((-(1 : Int)), ()))
 (rec (x3.1, y7.1, (IntKind.wrap IntKind.i64 (x3.2.2.1 + (1 : Int))), ()))))))
 (e0_0 (x3.2.1, ())))
noncomputable def F51 (a0 : List (D150)) (a1 : Int) : Option (Int × Unit) :=
 (cond (decide ((IntKind.wrap IntKind.i64 (a1 - (((List.length a0) : Nat) : Int))) < (0 : Int)))
 (some ((-(1 : Int)), ()))
 (iter (F51_R5
 (fun y8 =>
 (some (y8.1, ())))
 (fun y9 =>
 (some (y9.1, ())))) fuel (a0, (IntKind.wrap IntKind.i64 (a1 - (((List.length a0) : Nat) : Int))), (0 : Int), ())))
noncomputable def C51 : Fun := ⟨[(.ro (.slice Y150)), (.ro (.int .i64))], [((.int .i64), .z)], fun z => F51 z.1 z.2.1⟩
noncomputable def E51 : Env := ⟨27, tyTab tys, oneTab ones, fnTab [(80, C80)], false, [], [(4, [0, 1], []), (5, [0, 1, 5], []), (6, [0, 1, 5], []), (7, [0, 1, 5], []), (10, [1], []), (100000, [1], []), (100001, [0, 1, 5], []), (99999, [4], [])], none, [], []⟩
noncomputable def L51 : List (LoopS (Int × Unit)) := [⟨5, ⟨[(0, (.pv (.slice Y150))), (1, (.pv (.int .i64))), (5, (.pv (.int .i64)))], []⟩, fun κ => F51_R5 (fun y => κ.exit 0 (SSh.mk' ⟨[(1, (.pv (.int .i64)))], []⟩ y)) (fun y => κ.ret (SSh.mk' ⟨[(4, (.pv (.int .i64)))], []⟩ y))⟩]
theorem L51_5 : RoundEq E51 L51 L51[0] (nthLoop (codeOf Tryz.f51) 0) := fun κ N x => by kernel_rfl
theorem C51_ok : QuietOk Tryz.prog 51 C51 := tQ E51 L51 [nthLoop (codeOf Tryz.f51) 0] Tryz.func51 ty_ok (.cons C80_ok .nil) (.cons L51[0] (by kernel_rfl) L51_5 .nil)
noncomputable def F24 (a0 : D60) (a1 : Int) : Option (Int × Unit) :=
 (Option.bind (F49 a0.2.2.1 a1) fun y0 =>
 (cond (decide (y0.1 < (0 : Int)))
 (some ((-(1 : Int)), ()))
 (Option.bind (F51 a0.2.2.2.1 y0.1) fun y2 =>
 (cond (decide (y2.1 < (0 : Int)))
 (some ((-(1 : Int)), ()))
 (some (y2.1, ()))))))
noncomputable def C24 : Fun := ⟨[(.ro Y60), (.ro (.int .i64))], [((.int .i64), .z)], fun z => F24 z.1 z.2.1⟩
noncomputable def E24 : Env := ⟨18, tyTab tys, oneTab ones, fnTab [(49, C49), (51, C51)], false, [], [(4, [1, 2], []), (7, [1], []), (99999, [4], [])], none, [], []⟩
noncomputable def L24 : List (LoopS (Int × Unit)) := []
theorem C24_ok : QuietOk Tryz.prog 24 C24 := tQ E24 L24 [] Tryz.func24 ty_ok (.cons C49_ok (.cons C51_ok .nil)) .nil
noncomputable def F11_R5 (e0_0 : Int × Unit → Option (Int × Unit)) (er_1 : Int × Unit → Option (Int × Unit)) (rec : List (D60) × Int × Int × Unit → Option (Int × Unit)) (x3 : List (D60) × Int × Int × Unit) : Option (Int × Unit) :=
 (cond (decide (x3.2.2.1 < (((List.length x3.1) : Nat) : Int)))
 (gd (decide ((0 : Int) ≤ x3.2.2.1))
 (Option.bind x3.1[(Int.toNat x3.2.2.1)]? fun y6 =>
 (Option.bind (F24 y6 x3.2.1) fun y7 =>
 (cond (decide (y7.1 < (0 : Int)))
 (er_1 ((-(1 : Int)), ()))
 (rec (x3.1, y7.1, (IntKind.wrap IntKind.i64 (x3.2.2.1 + (1 : Int))), ()))))))
 (e0_0 (x3.2.1, ())))
noncomputable def F11 (a0 : List (D60)) (a1 : Int) : Option (Int × Unit) :=
 (cond (decide ((IntKind.wrap IntKind.i64 (a1 - (((List.length a0) : Nat) : Int))) < (0 : Int)))
 (some ((-(1 : Int)), ()))
 (iter (F11_R5
 (fun y8 =>
 (some (y8.1, ())))
 (fun y9 =>
 (some (y9.1, ())))) fuel (a0, (IntKind.wrap IntKind.i64 (a1 - (((List.length a0) : Nat) : Int))), (0 : Int), ())))
noncomputable def C11 : Fun := ⟨[(.ro (.slice Y60)), (.ro (.int .i64))], [((.int .i64), .z)], fun z => F11 z.1 z.2.1⟩
noncomputable def E11 : Env := ⟨27, tyTab tys, oneTab ones, fnTab [(24, C24)], false, [], [(4, [0, 1], []), (5, [0, 1, 5], []), (6, [0, 1, 5], []), (7, [0, 1, 5], []), (10, [1], []), (100000, [1], []), (100001, [0, 1, 5], []), (99999, [4], [])], none, [], []⟩
noncomputable def L11 : List (LoopS (Int × Unit)) := [⟨5, ⟨[(0, (.pv (.slice Y60))), (1, (.pv (.int .i64))), (5, (.pv (.int .i64)))], []⟩, fun κ => F11_R5 (fun y => κ.exit 0 (SSh.mk' ⟨[(1, (.pv (.int .i64)))], []⟩ y)) (fun y => κ.ret (SSh.mk' ⟨[(4, (.pv (.int .i64)))], []⟩ y))⟩]
theorem L11_5 : RoundEq E11 L11 L11[0] (nthLoop (codeOf Tryz.f11) 0) := fun κ N x => by kernel_rfl
theorem C11_ok : QuietOk Tryz.prog 11 C11 := tQ E11 L11 [nthLoop (codeOf Tryz.f11) 0] Tryz.func11 ty_ok (.cons C24_ok .nil) (.cons L11[0] (by kernel_rfl) L11_5 .nil)
noncomputable def F4 (a0 : D25) (a1 : Int) : Option (Int × Unit) :=
 (Option.bind (F9 a0.1 a1) fun y0 =>
 (cond (decide (y0.1 < (0 : Int)))
 (some ((-(1 : Int)), ()))
 (Option.bind (F10 a0.2.1 y0.1) fun y2 =>
 (cond (decide (y2.1 < (0 : Int)))
 (some ((-(1 : Int)), ()))
 (Option.bind (F11 a0.2.2.1 y2.1) fun y4 =>
 (cond (decide (y4.1 < (0 : Int)))
 (some ((-(1 : Int)), ()))
 (some (y4.1, ()))))))))
noncomputable def C4 : Fun := ⟨[(.ro Y25), (.ro (.int .i64))], [((.int .i64), .z)], fun z => F4 z.1 z.2.1⟩
noncomputable def E4 : Env := ⟨24, tyTab tys, oneTab ones, fnTab [(9, C9), (10, C10), (11, C11)], false, [], [(4, [1, 2], []), (7, [1, 2], []), (10, [1], []), (99999, [4], [])], none, [], []⟩
noncomputable def L4 : List (LoopS (Int × Unit)) := []
theorem C4_ok : QuietOk Tryz.prog 4 C4 := tQ E4 L4 [] Tryz.func4 ty_ok (.cons C9_ok (.cons C10_ok (.cons C11_ok .nil))) .nil
noncomputable def F25 (a0 : Int) (a1 : Int) (a2 : Int) : Option (Bool × Unit) :=
 (cond (decide (a1 ≤ a0))
 (some ((decide (a0 ≤ a2)), ()))
 (some (false, ())))
noncomputable def C25 : Fun := ⟨[(.ro (.int .i64)), (.ro (.int .i64)), (.ro (.int .i64))], [(.bool, .z)], fun z => F25 z.1 z.2.1 z.2.2.1⟩
noncomputable def E25 : Env := ⟨15, tyTab tys, oneTab ones, fnTab [], false, [], [(99999, [6], [])], none, [], []⟩
noncomputable def L25 : List (LoopS (Bool × Unit)) := []
theorem C25_ok : QuietOk Tryz.prog 25 C25 := tQ E25 L25 [] Tryz.func25 ty_ok .nil .nil
noncomputable def F171 (a0 : Int) : Option (Bool × Unit) :=
 (cond (decide (a0 ≥ (97 : Int)))
 (cond (decide (a0 ≤ (122 : Int)))
 (some (true, ()))
 (cond (decide (a0 ≥ (65 : Int)))
 (cond (decide (a0 ≤ (90 : Int)))
 (some (true, ()))
 (some ((a0 == (95 : Int)), ())))
 (some ((a0 == (95 : Int)), ()))))
 (cond (decide (a0 ≥ (65 : Int)))
 (cond (decide (a0 ≤ (90 : Int)))
 (some (true, ()))
 (some ((a0 == (95 : Int)), ())))
 (some ((a0 == (95 : Int)), ()))))
noncomputable def C171 : Fun := ⟨[(.ro (.int .u8))], [(.bool, .z)], fun z => F171 z.1⟩
noncomputable def E171 : Env := ⟨21, tyTab tys, oneTab ones, fnTab [], false, [], [(99999, [2], [])], none, [], []⟩
noncomputable def L171 : List (LoopS (Bool × Unit)) := []
theorem C171_ok : QuietOk Tryz.prog 171 C171 := tQ E171 L171 [] Tryz.func171 ty_ok .nil .nil
noncomputable def F172 (a0 : Int) : Option (Bool × Unit) :=
 (cond (decide (a0 ≥ (48 : Int)))
 (some ((decide (a0 ≤ (57 : Int))), ()))
 (some (false, ())))
noncomputable def C172 : Fun := ⟨[(.ro (.int .u8))], [(.bool, .z)], fun z => F172 z.1⟩
noncomputable def E172 : Env := ⟨9, tyTab tys, oneTab ones, fnTab [], false, [], [(99999, [2], [])], none, [], []⟩
noncomputable def L172 : List (LoopS (Bool × Unit)) := []
theorem C172_ok : QuietOk Tryz.prog 172 C172 := tQ E172 L172 [] Tryz.func172 ty_ok .nil .nil
noncomputable def F150_R4 (e0_0 : Unit → Option (Bool × Unit)) (er_1 : Bool × Unit → Option (Bool × Unit)) (rec : List UInt8 × Int × Unit → Option (Bool × Unit)) (x5 : List UInt8 × Int × Unit) : Option (Bool × Unit) :=
 (cond (decide (x5.2.1 < (((List.length x5.1) : Nat) : Int)))
 (let j12 : List UInt8 × Int × Unit → Option (Bool × Unit) := fun (y13 : List UInt8 × Int × Unit) =>
 (rec (y13.1, (IntKind.wrap IntKind.i64 (y13.2.1 + (1 : Int))), ()))
 (gd (decide ((0 : Int) ≤ x5.2.1))
 (Option.bind x5.1[(Int.toNat x5.2.1)]? fun y8 =>
 (Option.bind (F171 (((UInt8.toNat y8) : Nat) : Int)) fun y9 =>
 (cond (!y9.1)
 (gd (decide ((0 : Int) ≤ x5.2.1))
 (Option.bind x5.1[(Int.toNat x5.2.1)]? fun y10 =>
 (Option.bind (F172 (((UInt8.toNat y10) : Nat) : Int)) fun y11 =>
 (cond (!y11.1)
 (er_1 (false, ()))
 (j12 (x5.1, x5.2.1, ()))))))
 (j12 (x5.1, x5.2.1, ())))))))
 (e0_0 (())))
noncomputable def F150 (a0 : List UInt8) : Option (Bool × Unit) :=
 (cond (decide ((((List.length a0) : Nat) : Int) < (1 : Int)))
 (some (false, ()))
 (cond (decide ((((List.length a0) : Nat) : Int) > (40 : Int)))
 (some (false, ()))
 (Option.bind a0[(Int.toNat (0 : Int))]? fun y1 =>
 (Option.bind (F171 (((UInt8.toNat y1) : Nat) : Int)) fun y2 =>
 (cond (!y2.1)
 (some (false, ()))
 (iter (F150_R4
 (fun y14 =>
 (some (true, ())))
 (fun y15 =>
 (some (y15.1, ())))) fuel (a0, (1 : Int), ())))))))
noncomputable def C150 : Fun := ⟨[(.ro .str)], [(.bool, .z)], fun z => F150 z.1⟩
noncomputable def E150 : Env := ⟨36, tyTab tys, oneTab ones, fnTab [(171, C171), (172, C172)], false, [], [(3, [0], []), (4, [0, 3], []), (5, [0, 3], []), (6, [0, 3], []), (8, [], []), (100000, [], []), (100001, [0, 3], []), (99999, [2], [])], none, [], []⟩
noncomputable def L150 : List (LoopS (Bool × Unit)) := [⟨4, ⟨[(0, (.pv .str)), (3, (.pv (.int .i64)))], []⟩, fun κ => F150_R4 (fun y => κ.exit 0 (SSh.mk' ⟨[], []⟩ y)) (fun y => κ.ret (SSh.mk' ⟨[(2, (.pv .bool))], []⟩ y))⟩]
theorem L150_4 : RoundEq E150 L150 L150[0] (nthLoop (codeOf Tryz.f150) 0) := fun κ N x => by kernel_rfl
theorem C150_ok : QuietOk Tryz.prog 150 C150 := tQ E150 L150 [nthLoop (codeOf Tryz.f150) 0] Tryz.func150 ty_ok (.cons C171_ok (.cons C172_ok .nil)) (.cons L150[0] (by kernel_rfl) L150_4 .nil)
noncomputable def F117 (a0 : List UInt8) : Option (Bool × Unit) :=
 (Option.bind (F150 a0) fun y0 =>
 (some (y0.1, ())))
noncomputable def C117 : Fun := ⟨[(.ro .str)], [(.bool, .z)], fun z => F117 z.1⟩
noncomputable def E117 : Env := ⟨5, tyTab tys, oneTab ones, fnTab [(150, C150)], false, [], [(99999, [2], [])], none, [], []⟩
noncomputable def L117 : List (LoopS (Bool × Unit)) := []
theorem C117_ok : QuietOk Tryz.prog 117 C117 := tQ E117 L117 [] Tryz.func117 ty_ok (.cons C150_ok .nil) .nil
noncomputable def F81 (a0 : List UInt8) : Option (Bool × Unit) :=
 (Option.bind (F117 a0) fun y0 =>
 (cond y0.1
 (some ((decide ((((List.length a0) : Nat) : Int) ≤ (12 : Int))), ()))
 (some (false, ()))))
noncomputable def C81 : Fun := ⟨[(.ro .str)], [(.bool, .z)], fun z => F81 z.1⟩
noncomputable def E81 : Env := ⟨10, tyTab tys, oneTab ones, fnTab [(117, C117)], false, [], [(99999, [2], [])], none, [], []⟩
noncomputable def L81 : List (LoopS (Bool × Unit)) := []
theorem C81_ok : QuietOk Tryz.prog 81 C81 := tQ E81 L81 [] Tryz.func81 ty_ok (.cons C117_ok .nil) .nil
noncomputable def F151_R4 (e0_0 : List UInt8 × Int × List (List UInt8) × Unit → Option (List (List UInt8) × Unit)) (rec : List UInt8 × Int × Int × Int × List (List UInt8) × Unit → Option (List (List UInt8) × Unit)) (x2 : List UInt8 × Int × Int × Int × List (List UInt8) × Unit) : Option (List (List UInt8) × Unit) :=
 (cond (decide (x2.2.2.2.1 < (((List.length x2.1) : Nat) : Int)))
 (let j6 : List UInt8 × Int × Int × Int × List (List UInt8) × Unit → Option (List (List UInt8) × Unit) := fun (y7 : List UInt8 × Int × Int × Int × List (List UInt8) × Unit) =>
 (rec (y7.1, y7.2.1, y7.2.2.1, (IntKind.wrap IntKind.i64 (y7.2.2.2.1 + (1 : Int))), y7.2.2.2.2.1, ()))
 (gd (decide ((0 : Int) ≤ x2.2.2.2.1))
 (Option.bind x2.1[(Int.toNat x2.2.2.2.1)]? fun y5 =>
 (cond ((((UInt8.toNat y5) : Nat) : Int) == x2.2.1)
 (gd (decide ((0 : Int) ≤ x2.2.2.2.1))
 (gd (decide (x2.2.2.2.1 ≤ (((List.length x2.1) : Nat) : Int)))
 (gd (decide ((0 : Int) ≤ x2.2.2.1))
 (gd (decide (x2.2.2.1 ≤ (((Int.toNat x2.2.2.2.1) : Nat) : Int)))
 (gd (decide (((List.length x2.2.2.2.2.1) + (List.length [(List.drop (Int.toNat x2.2.2.1) (List.take (Int.toNat x2.2.2.2.1) x2.1))])) ≤ lim))
 (j6 (x2.1, x2.2.1, (IntKind.wrap IntKind.i64 (x2.2.2.2.1 + (1 : Int))), x2.2.2.2.1, (x2.2.2.2.2.1 ++ [(List.drop (Int.toNat x2.2.2.1) (List.take (Int.toNat x2.2.2.2.1) x2.1))]), ())))))))
 (j6 (x2.1, x2.2.1, x2.2.2.1, x2.2.2.2.1, x2.2.2.2.2.1, ()))))))
 (e0_0 (x2.1, x2.2.2.1, x2.2.2.2.2.1, ())))
noncomputable def F151 (a0 : List UInt8) (a1 : Int) : Option (List (List UInt8) × Unit) :=
 (iter (F151_R4
 (fun y8 =>
 (gd (decide ((((List.length y8.1) : Nat) : Int) ≤ (((List.length y8.1) : Nat) : Int)))
 (gd (decide ((0 : Int) ≤ y8.2.1))
 (gd (decide (y8.2.1 ≤ (((Int.toNat (((List.length y8.1) : Nat) : Int)) : Nat) : Int)))
 (gd (decide (((List.length y8.2.2.1) + (List.length [(List.drop (Int.toNat y8.2.1) (List.take (Int.toNat (((List.length y8.1) : Nat) : Int)) y8.1))])) ≤ lim))
 (some ((y8.2.2.1 ++ [(List.drop (Int.toNat y8.2.1) (List.take (Int.toNat (((List.length y8.1) : Nat) : Int)) y8.1))]), ())))))))) fuel (a0, a1, (0 : Int), (0 : Int), [], ()))
noncomputable def C151 : Fun := ⟨[(.ro .str), (.ro (.int .u8))], [((.slice .str), .z)], fun z => F151 z.1 z.2.1⟩
noncomputable def E151 : Env := ⟨35, tyTab tys, oneTab ones, fnTab [], false, [], [(4, [0, 1, 5, 6, 7], []), (5, [0, 1, 5, 6, 7], []), (6, [0, 1, 5, 6, 7], []), (9, [0, 5, 6], []), (100000, [0, 5, 6], []), (100001, [0, 1, 5, 6, 7], []), (99999, [4], [])], none, [], []⟩
noncomputable def L151 : List (LoopS (List (List UInt8) × Unit)) := [⟨4, ⟨[(0, (.pv .str)), (1, (.pv (.int .u8))), (5, (.ref (.slice .str) 64 [])), (6, (.pv (.int .i64))), (7, (.pv (.int .i64)))], [(64, (.data false (.slice .str) (.own .z)))]⟩, fun κ => F151_R4 (fun y => κ.exit 0 (SSh.mk' ⟨[(0, (.pv .str)), (5, (.ref (.slice .str) 64 [])), (6, (.pv (.int .i64)))], [(64, (.data false (.slice .str) (.own .z)))]⟩ y))⟩]
theorem L151_4 : RoundEq E151 L151 L151[0] (nthLoop (codeOf Tryz.f151) 0) := fun κ N x => by kernel_rfl
theorem C151_ok : QuietOk Tryz.prog 151 C151 := tQ E151 L151 [nthLoop (codeOf Tryz.f151) 0] Tryz.func151 ty_ok .nil (.cons L151[0] (by kernel_rfl) L151_4 .nil)
noncomputable def F118_R7 (e0_0 : Unit → Option (Bool × Unit)) (er_1 : Bool × Unit → Option (Bool × Unit)) (rec : List (List UInt8) × Int × Unit → Option (Bool × Unit)) (x5 : List (List UInt8) × Int × Unit) : Option (Bool × Unit) :=
 (cond (decide (x5.2.1 < (((List.length x5.1) : Nat) : Int)))
 (gd (decide ((0 : Int) ≤ x5.2.1))
 (Option.bind x5.1[(Int.toNat x5.2.1)]? fun y8 =>
 (Option.bind (F81 y8) fun y9 =>
 (cond (!y9.1)
 (er_1 (false, ()))
 (rec (x5.1, (IntKind.wrap IntKind.i64 (x5.2.1 + (1 : Int))), ()))))))
 (e0_0 (())))
noncomputable def F118 (a0 : List UInt8) : Option (Bool × Unit) :=
 (cond (decide ((((List.length a0) : Nat) : Int) > (65536 : Int)))
 (some (false, ()))
 (Option.bind (F151 a0 (46 : Int)) fun y1 =>
 (cond (decide ((((List.length y1.1) : Nat) : Int) > (4 : Int)))
 (some (false, ()))
 (cond (decide ((((List.length a0) : Nat) : Int) > (50 : Int)))
 (some (false, ()))
 (iter (F118_R7
 (fun y10 =>
 (some (true, ())))
 (fun y11 =>
 (some (y11.1, ())))) fuel (y1.1, (0 : Int), ()))))))
noncomputable def C118 : Fun := ⟨[(.ro .str)], [(.bool, .z)], fun z => F118 z.1⟩
noncomputable def E118 : Env := ⟨30, tyTab tys, oneTab ones, fnTab [(81, C81), (151, C151)], false, [], [(3, [0], []), (6, [3], []), (7, [3, 4], []), (8, [3, 4], []), (9, [3, 4], []), (11, [], []), (100000, [], []), (100001, [3, 4], []), (99999, [2], [])], none, [], []⟩
noncomputable def L118 : List (LoopS (Bool × Unit)) := [⟨7, ⟨[(3, (.pv (.slice .str))), (4, (.pv (.int .i64)))], []⟩, fun κ => F118_R7 (fun y => κ.exit 0 (SSh.mk' ⟨[], []⟩ y)) (fun y => κ.ret (SSh.mk' ⟨[(2, (.pv .bool))], []⟩ y))⟩]
theorem L118_7 : RoundEq E118 L118 L118[0] (nthLoop (codeOf Tryz.f118) 0) := fun κ N x => by kernel_rfl
theorem C118_ok : QuietOk Tryz.prog 118 C118 := tQ E118 L118 [nthLoop (codeOf Tryz.f118) 0] Tryz.func118 ty_ok (.cons C81_ok (.cons C151_ok .nil)) (.cons L118[0] (by kernel_rfl) L118_7 .nil)
noncomputable def F82_R4 (e0_0 : D137 × Unit → Option (Bool × Unit)) (er_1 : Bool × Unit → Option (Bool × Unit)) (rec : Int × D137 × Unit → Option (Bool × Unit)) (x5 : Int × D137 × Unit) : Option (Bool × Unit) :=
 (cond (decide (x5.1 < (((List.length x5.2.1.2.1) : Nat) : Int)))
 (gd (decide ((0 : Int) ≤ x5.1))
 (Option.bind x5.2.1.2.1[(Int.toNat x5.1)]? fun y8 =>
 (Option.bind (F118 y8.1) fun y9 =>
 (cond (!y9.1)
 (er_1 (false, ()))
 (rec ((IntKind.wrap IntKind.i64 (x5.1 + (1 : Int))), x5.2.1, ()))))))
 (e0_0 (x5.2.1, ())))
noncomputable def F82 (a0 : D137) : Option (Bool × Unit) :=
 (Option.bind (F81 a0.1) fun y1 =>
 (cond (!y1.1)
 (some (false, ()))
 (Option.bind (F25 (((List.length a0.2.1) : Nat) : Int) (1 : Int) (2 : Int)) fun y2 =>
 (cond (!y2.1)
 (some (false, ()))
 (iter (F82_R4
 (fun y10 =>
 (cond ((((List.length y10.1.2.1) : Nat) : Int) == (1 : Int))
 (some (true, ()))
 (Option.bind y10.1.2.1[(Int.toNat (0 : Int))]? fun y12 =>
 (Option.bind y10.1.2.1[(Int.toNat (1 : Int))]? fun y13 =>
 (some ((!(y12.1 == y13.1)), ()))))))
 (fun y11 =>
 (some (y11.1, ())))) fuel ((0 : Int), a0, ()))))))
noncomputable def C82 : Fun := ⟨[(.ro Y137)], [(.bool, .z)], fun z => F82 z.1⟩
noncomputable def E82 : Env := ⟨47, tyTab tys, oneTab ones, fnTab [(25, C25), (81, C81), (118, C118)], false, [], [(3, [1], []), (4, [1, 3], []), (5, [1, 3], []), (6, [1, 3], []), (8, [1], []), (100000, [1], []), (100001, [1, 3], []), (99999, [2], [])], none, [], []⟩
noncomputable def L82 : List (LoopS (Bool × Unit)) := [⟨4, ⟨[(1, (.ptr 8 [])), (3, (.pv (.int .i64)))], [(8, (.data true Y137 .z))]⟩, fun κ => F82_R4 (fun y => κ.exit 0 (SSh.mk' ⟨[(1, (.ptr 8 []))], [(8, (.data true Y137 .z))]⟩ y)) (fun y => κ.ret (SSh.mk' ⟨[(2, (.pv .bool))], []⟩ y))⟩]
theorem L82_4 : RoundEq E82 L82 L82[0] (nthLoop (codeOf Tryz.f82) 0) := fun κ N x => by kernel_rfl
theorem C82_ok : QuietOk Tryz.prog 82 C82 := tQ E82 L82 [nthLoop (codeOf Tryz.f82) 0] Tryz.func82 ty_ok (.cons C25_ok (.cons C81_ok (.cons C118_ok .nil))) (.cons L82[0] (by kernel_rfl) L82_4 .nil)
noncomputable def F201_R3 (e0_0 : Int × Unit → Option (Int × Unit)) (rec : List UInt8 × Int × Int × Unit → Option (Int × Unit)) (x2 : List UInt8 × Int × Int × Unit) : Option (Int × Unit) :=
 (cond (decide (x2.2.2.1 < (((List.length x2.1) : Nat) : Int)))
 (gd (decide ((0 : Int) ≤ x2.2.2.1))
 (Option.bind x2.1[(Int.toNat x2.2.2.1)]? fun y4 =>
 (rec (x2.1, (IntKind.wrap IntKind.i64 ((IntKind.wrap IntKind.i64 (x2.2.1 * (256 : Int))) + (IntKind.wrap IntKind.i64 (((UInt8.toNat y4) : Nat) : Int)))), (IntKind.wrap IntKind.i64 (x2.2.2.1 + (1 : Int))), ()))))
 (e0_0 (x2.2.1, ())))
noncomputable def F201 (a0 : List UInt8) : Option (Int × Unit) :=
 (iter (F201_R3
 (fun y5 =>
 (some (y5.1, ())))) fuel (a0, (0 : Int), (0 : Int), ()))
noncomputable def C201 : Fun := ⟨[(.ro .str)], [((.int .i64), .z)], fun z => F201 z.1⟩
noncomputable def E201 : Env := ⟨19, tyTab tys, oneTab ones, fnTab [], false, [], [(3, [0, 3, 4], []), (5, [0, 3, 4], []), (6, [3], []), (100000, [3], []), (100001, [0, 3, 4], []), (99999, [2], [])], none, [], []⟩
noncomputable def L201 : List (LoopS (Int × Unit)) := [⟨3, ⟨[(0, (.pv .str)), (3, (.pv (.int .i64))), (4, (.pv (.int .i64)))], []⟩, fun κ => F201_R3 (fun y => κ.exit 0 (SSh.mk' ⟨[(3, (.pv (.int .i64)))], []⟩ y))⟩]
theorem L201_3 : RoundEq E201 L201 L201[0] (nthLoop (codeOf Tryz.f201) 0) := fun κ N x => by kernel_rfl
theorem C201_ok : QuietOk Tryz.prog 201 C201 := tQ E201 L201 [nthLoop (codeOf Tryz.f201) 0] Tryz.func201 ty_ok .nil (.cons L201[0] (by kernel_rfl) L201_3 .nil)
noncomputable def F190 (a0 : List UInt8) : Option (D72 × List UInt8 × Bool × Unit) :=
 (cond ((((List.length a0) : Nat) : Int) == (0 : Int))
 (some (((0 : Int), ((0 : Int), ([], ()))), ([], (false, ()))))
 (Option.bind a0[(Int.toNat (0 : Int))]? fun y1 =>
 (let j13 : List UInt8 × Int × D72 × D72 × Unit → Option (D72 × List UInt8 × Bool × Unit) := fun (y14 : List UInt8 × Int × D72 × D72 × Unit) =>
 (cond (decide ((((List.length y14.1) : Nat) : Int) < (IntKind.wrap IntKind.i64 ((1 : Int) + y14.2.1))))
 (some (((0 : Int), ((0 : Int), ([], ()))), ([], (false, ()))))
 (let j21 : List UInt8 × Int × D72 × D72 × Unit → Option (D72 × List UInt8 × Bool × Unit) := fun (y22 : List UInt8 × Int × D72 × D72 × Unit) =>
 (gd (decide ((((List.length y22.1) : Nat) : Int) ≤ (((List.length y22.1) : Nat) : Int)))
 (gd (decide ((0 : Int) ≤ (IntKind.wrap IntKind.i64 ((1 : Int) + y22.2.1))))
 (gd (decide ((IntKind.wrap IntKind.i64 ((1 : Int) + y22.2.1)) ≤ (((Int.toNat (((List.length y22.1) : Nat) : Int)) : Nat) : Int)))
 (some (y22.2.2.2.1, ((List.drop (Int.toNat (IntKind.wrap IntKind.i64 ((1 : Int) + y22.2.1))) (List.take (Int.toNat (((List.length y22.1) : Nat) : Int)) y22.1)), (true, ())))))))
 (cond (y14.2.1 == (1 : Int))
 (Option.bind y14.1[(Int.toNat (1 : Int))]? fun y17 =>
 (j21 (y14.1, y14.2.1, y14.2.2.1, (y14.2.2.2.1.1, ((IntKind.wrap IntKind.i64 (((UInt8.toNat y17) : Nat) : Int)), y14.2.2.2.1.2.2)), ())))
 (Option.bind y14.1[(Int.toNat (1 : Int))]? fun y19 =>
 (cond (decide ((((UInt8.toNat y19) : Nat) : Int) > (127 : Int)))
 (some (((0 : Int), ((0 : Int), ([], ()))), ([], (false, ()))))
 (gd (decide ((9 : Int) ≤ (((List.length y14.1) : Nat) : Int)))
 (Option.bind (F201 (List.drop (Int.toNat (1 : Int)) (List.take (Int.toNat (9 : Int)) y14.1))) fun y20 =>
 (j21 (y14.1, y14.2.1, y14.2.2.1, (y14.2.2.2.1.1, ((IntKind.wrap IntKind.i64 (y20.1 - (4611686018427387904 : Int))), y14.2.2.2.1.2.2)), ())))))))))
 (cond ((IntKind.wrap IntKind.i64 (((UInt8.toNat y1) : Nat) : Int)) == (0 : Int))
 (gd (decide ((((List.length a0) : Nat) : Int) ≤ (((List.length a0) : Nat) : Int)))
 (gd (decide ((1 : Int) ≤ (((Int.toNat (((List.length a0) : Nat) : Int)) : Nat) : Int)))
 (some (((IntKind.wrap IntKind.i64 (((UInt8.toNat y1) : Nat) : Int)), ((0 : Int), ([], ()))), ((List.drop (Int.toNat (1 : Int)) (List.take (Int.toNat (((List.length a0) : Nat) : Int)) a0)), (true, ()))))))
 (cond ((IntKind.wrap IntKind.i64 (((UInt8.toNat y1) : Nat) : Int)) == (1 : Int))
 (j13 (a0, (1 : Int), ((0 : Int), ((0 : Int), ([], ()))), ((IntKind.wrap IntKind.i64 (((UInt8.toNat y1) : Nat) : Int)), ((0 : Int), ([], ()))), ()))
 (cond ((IntKind.wrap IntKind.i64 (((UInt8.toNat y1) : Nat) : Int)) == (2 : Int))
 (j13 (a0, (8 : Int), ((0 : Int), ((0 : Int), ([], ()))), ((IntKind.wrap IntKind.i64 (((UInt8.toNat y1) : Nat) : Int)), ((0 : Int), ([], ()))), ()))
 (cond ((IntKind.wrap IntKind.i64 (((UInt8.toNat y1) : Nat) : Int)) == (3 : Int))
 (cond ((IntKind.wrap IntKind.i64 (((UInt8.toNat y1) : Nat) : Int)) == (3 : Int))
 (cond (decide ((((List.length a0) : Nat) : Int) < (3 : Int)))
 (some (((0 : Int), ((0 : Int), ([], ()))), ([], (false, ()))))
 (gd (decide ((3 : Int) ≤ (((List.length a0) : Nat) : Int)))
 (Option.bind (F201 (List.drop (Int.toNat (1 : Int)) (List.take (Int.toNat (3 : Int)) a0))) fun y5 =>
 (cond (decide ((((List.length a0) : Nat) : Int) < (IntKind.wrap IntKind.i64 ((3 : Int) + y5.1))))
 (some (((0 : Int), ((0 : Int), ([], ()))), ([], (false, ()))))
 (gd (decide ((0 : Int) ≤ (IntKind.wrap IntKind.i64 ((3 : Int) + y5.1))))
 (gd (decide ((IntKind.wrap IntKind.i64 ((3 : Int) + y5.1)) ≤ (((List.length a0) : Nat) : Int)))
 (gd (decide ((3 : Int) ≤ (((Int.toNat (IntKind.wrap IntKind.i64 ((3 : Int) + y5.1))) : Nat) : Int)))
 (gd (decide ((((List.length a0) : Nat) : Int) ≤ (((List.length a0) : Nat) : Int)))
 (gd (decide ((0 : Int) ≤ (IntKind.wrap IntKind.i64 ((3 : Int) + y5.1))))
 (gd (decide ((IntKind.wrap IntKind.i64 ((3 : Int) + y5.1)) ≤ (((Int.toNat (((List.length a0) : Nat) : Int)) : Nat) : Int)))
 (some (((IntKind.wrap IntKind.i64 (((UInt8.toNat y1) : Nat) : Int)), ((0 : Int), ((List.drop (Int.toNat (3 : Int)) (List.take (Int.toNat (IntKind.wrap IntKind.i64 ((3 : Int) + y5.1))) a0)), ()))), ((List.drop (Int.toNat (IntKind.wrap IntKind.i64 ((3 : Int) + y5.1))) (List.take (Int.toNat (((List.length a0) : Nat) : Int)) a0)), (true, ()))))))))))))))
 (some (((0 : Int), ((0 : Int), ([], ()))), ([], (false, ())))))
 (cond ((IntKind.wrap IntKind.i64 (((UInt8.toNat y1) : Nat) : Int)) == (4 : Int))
 (cond ((IntKind.wrap IntKind.i64 (((UInt8.toNat y1) : Nat) : Int)) == (4 : Int))
 (cond (decide ((((List.length a0) : Nat) : Int) < (3 : Int)))
 (some (((0 : Int), ((0 : Int), ([], ()))), ([], (false, ()))))
 (gd (decide ((3 : Int) ≤ (((List.length a0) : Nat) : Int)))
 (Option.bind (F201 (List.drop (Int.toNat (1 : Int)) (List.take (Int.toNat (3 : Int)) a0))) fun y8 =>
 (cond (decide ((((List.length a0) : Nat) : Int) < (IntKind.wrap IntKind.i64 ((3 : Int) + y8.1))))
 (some (((0 : Int), ((0 : Int), ([], ()))), ([], (false, ()))))
 (gd (decide ((0 : Int) ≤ (IntKind.wrap IntKind.i64 ((3 : Int) + y8.1))))
 (gd (decide ((IntKind.wrap IntKind.i64 ((3 : Int) + y8.1)) ≤ (((List.length a0) : Nat) : Int)))
 (gd (decide ((3 : Int) ≤ (((Int.toNat (IntKind.wrap IntKind.i64 ((3 : Int) + y8.1))) : Nat) : Int)))
 (gd (decide ((((List.length a0) : Nat) : Int) ≤ (((List.length a0) : Nat) : Int)))
 (gd (decide ((0 : Int) ≤ (IntKind.wrap IntKind.i64 ((3 : Int) + y8.1))))
 (gd (decide ((IntKind.wrap IntKind.i64 ((3 : Int) + y8.1)) ≤ (((Int.toNat (((List.length a0) : Nat) : Int)) : Nat) : Int)))
 (some (((IntKind.wrap IntKind.i64 (((UInt8.toNat y1) : Nat) : Int)), ((0 : Int), ((List.drop (Int.toNat (3 : Int)) (List.take (Int.toNat (IntKind.wrap IntKind.i64 ((3 : Int) + y8.1))) a0)), ()))), ((List.drop (Int.toNat (IntKind.wrap IntKind.i64 ((3 : Int) + y8.1))) (List.take (Int.toNat (((List.length a0) : Nat) : Int)) a0)), (true, ()))))))))))))))
 (some (((0 : Int), ((0 : Int), ([], ()))), ([], (false, ())))))
 (cond ((IntKind.wrap IntKind.i64 (((UInt8.toNat y1) : Nat) : Int)) == (5 : Int))
 (cond (decide ((((List.length a0) : Nat) : Int) < (3 : Int)))
 (some (((0 : Int), ((0 : Int), ([], ()))), ([], (false, ()))))
 (gd (decide ((3 : Int) ≤ (((List.length a0) : Nat) : Int)))
 (Option.bind (F201 (List.drop (Int.toNat (1 : Int)) (List.take (Int.toNat (3 : Int)) a0))) fun y11 =>
 (cond (decide ((((List.length a0) : Nat) : Int) < (IntKind.wrap IntKind.i64 ((3 : Int) + y11.1))))
 (some (((0 : Int), ((0 : Int), ([], ()))), ([], (false, ()))))
 (gd (decide ((0 : Int) ≤ (IntKind.wrap IntKind.i64 ((3 : Int) + y11.1))))
 (gd (decide ((IntKind.wrap IntKind.i64 ((3 : Int) + y11.1)) ≤ (((List.length a0) : Nat) : Int)))
 (gd (decide ((3 : Int) ≤ (((Int.toNat (IntKind.wrap IntKind.i64 ((3 : Int) + y11.1))) : Nat) : Int)))
 (gd (decide ((((List.length a0) : Nat) : Int) ≤ (((List.length a0) : Nat) : Int)))
 (gd (decide ((0 : Int) ≤ (IntKind.wrap IntKind.i64 ((3 : Int) + y11.1))))
 (gd (decide ((IntKind.wrap IntKind.i64 ((3 : Int) + y11.1)) ≤ (((Int.toNat (((List.length a0) : Nat) : Int)) : Nat) : Int)))
 (some (((IntKind.wrap IntKind.i64 (((UInt8.toNat y1) : Nat) : Int)), ((0 : Int), ((List.drop (Int.toNat (3 : Int)) (List.take (Int.toNat (IntKind.wrap IntKind.i64 ((3 : Int) + y11.1))) a0)), ()))), ((List.drop (Int.toNat (IntKind.wrap IntKind.i64 ((3 : Int) + y11.1))) (List.take (Int.toNat (((List.length a0) : Nat) : Int)) a0)), (true, ()))))))))))))))
 (some (((0 : Int), ((0 : Int), ([], ()))), ([], (false, ())))))))))))))
noncomputable def C190 : Fun := ⟨[(.ro .str)], [(Y72, .z), (.str, .z), (.bool, .z)], fun z => F190 z.1⟩
noncomputable def E190 : Env := ⟨81, tyTab tys, oneTab ones, fnTab [(201, C201)], false, [], [(3, [0, 2], []), (18, [0, 2, 5], []), (21, [0, 2, 5, 7], []), (23, [0, 2, 5, 6], []), (25, [0, 2, 5, 6], []), (29, [0, 2, 5, 6], []), (30, [0, 2, 5, 6], []), (100000, [0, 2, 5, 6], []), (99999, [2, 3, 4], [])], none, [], []⟩
noncomputable def L190 : List (LoopS (D72 × List UInt8 × Bool × Unit)) := []
theorem C190_ok : QuietOk Tryz.prog 190 C190 := tQ E190 L190 [] Tryz.func190 ty_ok (.cons C201_ok .nil) .nil
noncomputable def F174_R2 (e0_0 : List (D244) × Unit → Option (List (D244) × Bool × Unit)) (er_1 : Bool × List (D244) × Unit → Option (List (D244) × Bool × Unit)) (er_2 : Bool × List (D244) × Unit → Option (List (D244) × Bool × Unit)) (rec : List UInt8 × List (D244) × Unit → Option (List (D244) × Bool × Unit)) (x2 : List UInt8 × List (D244) × Unit) : Option (List (D244) × Bool × Unit) :=
 (cond (decide ((((List.length x2.1) : Nat) : Int) > (0 : Int)))
 (Option.bind x2.1[(Int.toNat (0 : Int))]? fun y4 =>
 (cond (decide ((((List.length x2.1) : Nat) : Int) < (IntKind.wrap IntKind.i64 ((1 : Int) + (IntKind.wrap IntKind.i64 (((UInt8.toNat y4) : Nat) : Int))))))
 (er_1 (false, [], ()))
 (gd (decide ((0 : Int) ≤ (IntKind.wrap IntKind.i64 ((1 : Int) + (IntKind.wrap IntKind.i64 (((UInt8.toNat y4) : Nat) : Int))))))
 (gd (decide ((IntKind.wrap IntKind.i64 ((1 : Int) + (IntKind.wrap IntKind.i64 (((UInt8.toNat y4) : Nat) : Int)))) ≤ (((List.length x2.1) : Nat) : Int)))
 (gd (decide ((1 : Int) ≤ (((Int.toNat (IntKind.wrap IntKind.i64 ((1 : Int) + (IntKind.wrap IntKind.i64 (((UInt8.toNat y4) : Nat) : Int))))) : Nat) : Int)))
 (gd (decide ((((List.length x2.1) : Nat) : Int) ≤ (((List.length x2.1) : Nat) : Int)))
 (gd (decide ((0 : Int) ≤ (IntKind.wrap IntKind.i64 ((1 : Int) + (IntKind.wrap IntKind.i64 (((UInt8.toNat y4) : Nat) : Int))))))
 (gd (decide ((IntKind.wrap IntKind.i64 ((1 : Int) + (IntKind.wrap IntKind.i64 (((UInt8.toNat y4) : Nat) : Int)))) ≤ (((Int.toNat (((List.length x2.1) : Nat) : Int)) : Nat) : Int)))
 (Option.bind (F190 (List.drop (Int.toNat (IntKind.wrap IntKind.i64 ((1 : Int) + (IntKind.wrap IntKind.i64 (((UInt8.toNat y4) : Nat) : Int))))) (List.take (Int.toNat (((List.length x2.1) : Nat) : Int)) x2.1))) fun y6 =>
 (cond (!y6.2.2.1)
 (er_2 (false, [], ()))
 (gd (decide (((List.length x2.2.1) + (List.length [((List.drop (Int.toNat (1 : Int)) (List.take (Int.toNat (IntKind.wrap IntKind.i64 ((1 : Int) + (IntKind.wrap IntKind.i64 (((UInt8.toNat y4) : Nat) : Int))))) x2.1)), (y6.1, ()))])) ≤ lim))
 (rec (y6.2.1, (x2.2.1 ++ [((List.drop (Int.toNat (1 : Int)) (List.take (Int.toNat (IntKind.wrap IntKind.i64 ((1 : Int) + (IntKind.wrap IntKind.i64 (((UInt8.toNat y4) : Nat) : Int))))) x2.1)), (y6.1, ()))]), ())))))))))))))
 (e0_0 (x2.2.1, ())))
noncomputable def F174 (a0 : List UInt8) : Option (List (D244) × Bool × Unit) :=
 (iter (F174_R2
 (fun y8 =>
 (some (y8.1, (true, ()))))
 (fun y9 =>
 (some (y9.2.1, (y9.1, ()))))
 (fun y10 =>
 (some (y10.2.1, (y10.1, ()))))) fuel (a0, [], ()))
noncomputable def C174 : Fun := ⟨[(.ro .str)], [((.slice Y244), .z), (.bool, .z)], fun z => F174 z.1⟩
noncomputable def E174 : Env := ⟨47, tyTab tys, oneTab ones, fnTab [(190, C190)], false, [], [(2, [0, 4], []), (3, [0, 4], []), (6, [0, 4, 5], []), (10, [4, 6, 7, 8], []), (12, [4], []), (100000, [4], []), (100001, [0, 4], []), (99999, [2, 3], [])], none, [], []⟩
noncomputable def L174 : List (LoopS (List (D244) × Bool × Unit)) := [⟨2, ⟨[(0, (.pv .str)), (4, (.ref (.slice Y244) 80 []))], [(80, (.data false (.slice Y244) (.own .z)))]⟩, fun κ => F174_R2 (fun y => κ.exit 0 (SSh.mk' ⟨[(4, (.ref (.slice Y244) 80 []))], [(80, (.data false (.slice Y244) (.own .z)))]⟩ y)) (fun y => κ.ret (SSh.mk' ⟨[(2, (.ref (.slice Y244) 176 [])), (3, (.pv .bool))], [(176, (.data false (.slice Y244) (.own .z)))]⟩ y)) (fun y => κ.ret (SSh.mk' ⟨[(2, (.ref (.slice Y244) 304 [])), (3, (.pv .bool))], [(304, (.data false (.slice Y244) (.own .z)))]⟩ y))⟩]
theorem L174_2 : RoundEq E174 L174 L174[0] (nthLoop (codeOf Tryz.f174) 0) := fun κ N x => by kernel_rfl
theorem C174_ok : QuietOk Tryz.prog 174 C174 := tQ E174 L174 [nthLoop (codeOf Tryz.f174) 0] Tryz.func174 ty_ok (.cons C190_ok .nil) (.cons L174[0] (by kernel_rfl) L174_2 .nil)
noncomputable def F189_R2 (e0_0 : List (D72) × Unit → Option (List (D72) × Bool × Unit)) (er_1 : Bool × List (D72) × Unit → Option (List (D72) × Bool × Unit)) (rec : List UInt8 × List (D72) × Unit → Option (List (D72) × Bool × Unit)) (x2 : List UInt8 × List (D72) × Unit) : Option (List (D72) × Bool × Unit) :=
 (cond (decide ((((List.length x2.1) : Nat) : Int) > (0 : Int)))
 (Option.bind (F190 x2.1) fun y4 =>
 (cond (!y4.2.2.1)
 (er_1 (false, [], ()))
 (gd (decide (((List.length x2.2.1) + (List.length [y4.1])) ≤ lim))
 (rec (y4.2.1, (x2.2.1 ++ [y4.1]), ())))))
 (e0_0 (x2.2.1, ())))
noncomputable def F189 (a0 : List UInt8) : Option (List (D72) × Bool × Unit) :=
 (iter (F189_R2
 (fun y6 =>
 (some (y6.1, (true, ()))))
 (fun y7 =>
 (some (y7.2.1, (y7.1, ()))))) fuel (a0, [], ()))
noncomputable def C189 : Fun := ⟨[(.ro .str)], [((.slice Y72), .z), (.bool, .z)], fun z => F189 z.1⟩
noncomputable def E189 : Env := ⟨27, tyTab tys, oneTab ones, fnTab [(190, C190)], false, [], [(2, [0, 4], []), (3, [0, 4], []), (6, [4, 5, 6], []), (8, [4], []), (100000, [4], []), (100001, [0, 4], []), (99999, [2, 3], [])], none, [], []⟩
noncomputable def L189 : List (LoopS (List (D72) × Bool × Unit)) := [⟨2, ⟨[(0, (.pv .str)), (4, (.ref (.slice Y72) 64 []))], [(64, (.data false (.slice Y72) (.own .z)))]⟩, fun κ => F189_R2 (fun y => κ.exit 0 (SSh.mk' ⟨[(4, (.ref (.slice Y72) 64 []))], [(64, (.data false (.slice Y72) (.own .z)))]⟩ y)) (fun y => κ.ret (SSh.mk' ⟨[(2, (.ref (.slice Y72) 160 [])), (3, (.pv .bool))], [(160, (.data false (.slice Y72) (.own .z)))]⟩ y))⟩]
theorem L189_2 : RoundEq E189 L189 L189[0] (nthLoop (codeOf Tryz.f189) 0) := fun κ N x => by kernel_rfl
theorem C189_ok : QuietOk Tryz.prog 189 C189 := tQ E189 L189 [nthLoop (codeOf Tryz.f189) 0] Tryz.func189 ty_ok (.cons C190_ok .nil) (.cons L189[0] (by kernel_rfl) L189_2 .nil)
end Go.V
