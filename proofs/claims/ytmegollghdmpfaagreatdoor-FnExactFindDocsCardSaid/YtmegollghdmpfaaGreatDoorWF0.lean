/- What functions of the program compute, printed by a program of ours. No condition. -/
import Derived.Test.YtmegollghdmpfaaGreatDoorWSort
namespace Go.V
open Go.Proofs
noncomputable section
set_option maxRecDepth 100000
set_option linter.unusedVariables false
def F18 (a0 : D52) (a1 : Int) : Option (Int × Unit) :=
 (cond (decide ((IntKind.wrap IntKind.i64 (a1 - (((List.length a0.2.2.1) : Nat) : Int))) < (0 : Int)))
 (some ((-(1 : Int)), ()))
 (some ((IntKind.wrap IntKind.i64 (a1 - (((List.length a0.2.2.1) : Nat) : Int))), ())))
def C18 : Fun := ⟨[(.ro Y52), (.ro (.int .i64))], [((.int .i64), .z)], fun z => F18 z.1 z.2.1⟩
def E18 : Env := ⟨13, tyTab tys, oneTab ones, fnTab [], false, [], [(4, [1], []), (99999, [4], [])], none, [], []⟩
def L18 : List (LoopS (Int × Unit)) := []
theorem C18_ok : QuietOk Tryz.prog 18 C18 := tQ E18 L18 [] Tryz.func18 ty_ok .nil .nil
def F145 (a0 : D102) (a1 : Int) : Option (Int × Unit) :=
 (cond (decide ((IntKind.wrap IntKind.i64 (a1 - (((List.length a0.2.1) : Nat) : Int))) < (0 : Int)))
 (some ((-(1 : Int)), ()))
 (Option.bind (F18 a0.2.2.1 (IntKind.wrap IntKind.i64 (a1 - (((List.length a0.2.1) : Nat) : Int)))) fun y1 =>
 (cond (decide (y1.1 < (0 : Int)))
 (some ((-(1 : Int)), ()))
 (some (y1.1, ())))))
def C145 : Fun := ⟨[(.ro Y102), (.ro (.int .i64))], [((.int .i64), .z)], fun z => F145 z.1 z.2.1⟩
def E145 : Env := ⟨19, tyTab tys, oneTab ones, fnTab [(18, C18)], false, [], [(4, [1, 2], []), (7, [1], []), (99999, [4], [])], none, [], []⟩
def L145 : List (LoopS (Int × Unit)) := []
theorem C145_ok : QuietOk Tryz.prog 145 C145 := tQ E145 L145 [] Tryz.func145 ty_ok (.cons C18_ok .nil) .nil
def F106_R5 (e0_0 : Int × Unit → Option (Int × Unit)) (er_1 : Int × Unit → Option (Int × Unit)) (rec : List (D102) × Int × Int × Unit → Option (Int × Unit)) (x3 : List (D102) × Int × Int × Unit) : Option (Int × Unit) :=
 (cond (decide (x3.2.2.1 < (((List.length x3.1) : Nat) : Int)))
 (gd (decide ((0 : Int) ≤ x3.2.2.1))
 (Option.bind x3.1[(Int.toNat x3.2.2.1)]? fun y6 =>
 (Option.bind (F145 y6 x3.2.1) fun y7 =>
 (cond (decide (y7.1 < (0 : Int)))
 (er_1 ((-(1 : Int)), ()))
 (rec (x3.1, y7.1, (IntKind.wrap IntKind.i64 (x3.2.2.1 + (1 : Int))), ()))))))
 (e0_0 (x3.2.1, ())))
def F106 (a0 : List (D102)) (a1 : Int) : Option (Int × Unit) :=
 (cond (decide ((IntKind.wrap IntKind.i64 (a1 - (((List.length a0) : Nat) : Int))) < (0 : Int)))
 (some ((-(1 : Int)), ()))
 (iter (F106_R5
 (fun y8 =>
 (some (y8.1, ())))
 (fun y9 =>
 (some (y9.1, ())))) fuel (a0, (IntKind.wrap IntKind.i64 (a1 - (((List.length a0) : Nat) : Int))), (0 : Int), ())))
def C106 : Fun := ⟨[(.ro (.slice Y102)), (.ro (.int .i64))], [((.int .i64), .z)], fun z => F106 z.1 z.2.1⟩
def E106 : Env := ⟨27, tyTab tys, oneTab ones, fnTab [(145, C145)], false, [], [(4, [0, 1], []), (5, [0, 1, 5], []), (6, [0, 1, 5], []), (7, [0, 1, 5], []), (10, [1], []), (100000, [1], []), (100001, [0, 1, 5], []), (99999, [4], [])], none, [], []⟩
def L106 : List (LoopS (Int × Unit)) := [⟨5, ⟨[(0, (.pv (.slice Y102))), (1, (.pv (.int .i64))), (5, (.pv (.int .i64)))], []⟩, fun κ => F106_R5 (fun y => κ.exit 0 (SSh.mk' ⟨[(1, (.pv (.int .i64)))], []⟩ y)) (fun y => κ.ret (SSh.mk' ⟨[(4, (.pv (.int .i64)))], []⟩ y))⟩]
theorem L106_5 : RoundEq E106 L106 L106[0] (nthLoop (codeOf Tryz.f106) 0) := fun κ N x => by kernel_rfl
theorem C106_ok : QuietOk Tryz.prog 106 C106 := tQ E106 L106 [nthLoop (codeOf Tryz.f106) 0] Tryz.func106 ty_ok (.cons C145_ok .nil) (.cons L106[0] (by kernel_rfl) L106_5 .nil)
def F66 (a0 : D96) (a1 : Int) : Option (Int × Unit) :=
 (Option.bind (F106 a0.1 a1) fun y0 =>
 (cond (decide (y0.1 < (0 : Int)))
 (some ((-(1 : Int)), ()))
 (some (y0.1, ()))))
def C66 : Fun := ⟨[(.ro Y96), (.ro (.int .i64))], [((.int .i64), .z)], fun z => F66 z.1 z.2.1⟩
def E66 : Env := ⟨12, tyTab tys, oneTab ones, fnTab [(106, C106)], false, [], [(4, [1], []), (99999, [4], [])], none, [], []⟩
def L66 : List (LoopS (Int × Unit)) := []
theorem C66_ok : QuietOk Tryz.prog 66 C66 := tQ E66 L66 [] Tryz.func66 ty_ok (.cons C106_ok .nil) .nil
def F37_R5 (e0_0 : Int × Unit → Option (Int × Unit)) (er_1 : Int × Unit → Option (Int × Unit)) (rec : List (D96) × Int × Int × Unit → Option (Int × Unit)) (x3 : List (D96) × Int × Int × Unit) : Option (Int × Unit) :=
 (cond (decide (x3.2.2.1 < (((List.length x3.1) : Nat) : Int)))
 (gd (decide ((0 : Int) ≤ x3.2.2.1))
 (Option.bind x3.1[(Int.toNat x3.2.2.1)]? fun y6 =>
 (Option.bind (F66 y6 x3.2.1) fun y7 =>
 (cond (decide (y7.1 < (0 : Int)))
 (er_1 ((-(1 : Int)), ()))
 (rec (x3.1, y7.1, (IntKind.wrap IntKind.i64 (x3.2.2.1 + (1 : Int))), ()))))))
 (e0_0 (x3.2.1, ())))
def F37 (a0 : List (D96)) (a1 : Int) : Option (Int × Unit) :=
 (cond (decide ((IntKind.wrap IntKind.i64 (a1 - (((List.length a0) : Nat) : Int))) < (0 : Int)))
 (some ((-(1 : Int)), ()))
 (iter (F37_R5
 (fun y8 =>
 (some (y8.1, ())))
 (fun y9 =>
 (some (y9.1, ())))) fuel (a0, (IntKind.wrap IntKind.i64 (a1 - (((List.length a0) : Nat) : Int))), (0 : Int), ())))
def C37 : Fun := ⟨[(.ro (.slice Y96)), (.ro (.int .i64))], [((.int .i64), .z)], fun z => F37 z.1 z.2.1⟩
def E37 : Env := ⟨27, tyTab tys, oneTab ones, fnTab [(66, C66)], false, [], [(4, [0, 1], []), (5, [0, 1, 5], []), (6, [0, 1, 5], []), (7, [0, 1, 5], []), (10, [1], []), (100000, [1], []), (100001, [0, 1, 5], []), (99999, [4], [])], none, [], []⟩
def L37 : List (LoopS (Int × Unit)) := [⟨5, ⟨[(0, (.pv (.slice Y96))), (1, (.pv (.int .i64))), (5, (.pv (.int .i64)))], []⟩, fun κ => F37_R5 (fun y => κ.exit 0 (SSh.mk' ⟨[(1, (.pv (.int .i64)))], []⟩ y)) (fun y => κ.ret (SSh.mk' ⟨[(4, (.pv (.int .i64)))], []⟩ y))⟩]
theorem L37_5 : RoundEq E37 L37 L37[0] (nthLoop (codeOf Tryz.f37) 0) := fun κ N x => by kernel_rfl
theorem C37_ok : QuietOk Tryz.prog 37 C37 := tQ E37 L37 [nthLoop (codeOf Tryz.f37) 0] Tryz.func37 ty_ok (.cons C66_ok .nil) (.cons L37[0] (by kernel_rfl) L37_5 .nil)
def F15 (a0 : D23) (a1 : Int) : Option (Int × Unit) :=
 (Option.bind (F37 a0.1 a1) fun y0 =>
 (cond (decide (y0.1 < (0 : Int)))
 (some ((-(1 : Int)), ()))
 (some (y0.1, ()))))
def C15 : Fun := ⟨[(.ro Y23), (.ro (.int .i64))], [((.int .i64), .z)], fun z => F15 z.1 z.2.1⟩
def E15 : Env := ⟨12, tyTab tys, oneTab ones, fnTab [(37, C37)], false, [], [(4, [1], []), (99999, [4], [])], none, [], []⟩
def L15 : List (LoopS (Int × Unit)) := []
theorem C15_ok : QuietOk Tryz.prog 15 C15 := tQ E15 L15 [] Tryz.func15 ty_ok (.cons C37_ok .nil) .nil
def F38 (a0 : D72) (a1 : Int) : Option (Int × Unit) :=
 (cond (decide ((IntKind.wrap IntKind.i64 (a1 - (((List.length a0.1) : Nat) : Int))) < (0 : Int)))
 (some ((-(1 : Int)), ()))
 (some ((IntKind.wrap IntKind.i64 (a1 - (((List.length a0.1) : Nat) : Int))), ())))
def C38 : Fun := ⟨[(.ro Y72), (.ro (.int .i64))], [((.int .i64), .z)], fun z => F38 z.1 z.2.1⟩
def E38 : Env := ⟨13, tyTab tys, oneTab ones, fnTab [], false, [], [(4, [1], []), (99999, [4], [])], none, [], []⟩
def L38 : List (LoopS (Int × Unit)) := []
theorem C38_ok : QuietOk Tryz.prog 38 C38 := tQ E38 L38 [] Tryz.func38 ty_ok .nil .nil
def F16_R5 (e0_0 : Int × Unit → Option (Int × Unit)) (er_1 : Int × Unit → Option (Int × Unit)) (rec : List (D72) × Int × Int × Unit → Option (Int × Unit)) (x3 : List (D72) × Int × Int × Unit) : Option (Int × Unit) :=
 (cond (decide (x3.2.2.1 < (((List.length x3.1) : Nat) : Int)))
 (gd (decide ((0 : Int) ≤ x3.2.2.1))
 (Option.bind x3.1[(Int.toNat x3.2.2.1)]? fun y6 =>
 (Option.bind (F38 y6 x3.2.1) fun y7 =>
 (cond (decide (y7.1 < (0 : Int)))
 (er_1 ((-(1 : Int)), ()))
 (rec (x3.1, y7.1, (IntKind.wrap IntKind.i64 (x3.2.2.1 + (1 : Int))), ()))))))
 (e0_0 (x3.2.1, ())))
def F16 (a0 : List (D72)) (a1 : Int) : Option (Int × Unit) :=
 (cond (decide ((IntKind.wrap IntKind.i64 (a1 - (((List.length a0) : Nat) : Int))) < (0 : Int)))
 (some ((-(1 : Int)), ()))
 (iter (F16_R5
 (fun y8 =>
 (some (y8.1, ())))
 (fun y9 =>
 (some (y9.1, ())))) fuel (a0, (IntKind.wrap IntKind.i64 (a1 - (((List.length a0) : Nat) : Int))), (0 : Int), ())))
def C16 : Fun := ⟨[(.ro (.slice Y72)), (.ro (.int .i64))], [((.int .i64), .z)], fun z => F16 z.1 z.2.1⟩
def E16 : Env := ⟨27, tyTab tys, oneTab ones, fnTab [(38, C38)], false, [], [(4, [0, 1], []), (5, [0, 1, 5], []), (6, [0, 1, 5], []), (7, [0, 1, 5], []), (10, [1], []), (100000, [1], []), (100001, [0, 1, 5], []), (99999, [4], [])], none, [], []⟩
def L16 : List (LoopS (Int × Unit)) := [⟨5, ⟨[(0, (.pv (.slice Y72))), (1, (.pv (.int .i64))), (5, (.pv (.int .i64)))], []⟩, fun κ => F16_R5 (fun y => κ.exit 0 (SSh.mk' ⟨[(1, (.pv (.int .i64)))], []⟩ y)) (fun y => κ.ret (SSh.mk' ⟨[(4, (.pv (.int .i64)))], []⟩ y))⟩]
theorem L16_5 : RoundEq E16 L16 L16[0] (nthLoop (codeOf Tryz.f16) 0) := fun κ N x => by kernel_rfl
theorem C16_ok : QuietOk Tryz.prog 16 C16 := tQ E16 L16 [nthLoop (codeOf Tryz.f16) 0] Tryz.func16 ty_ok (.cons C38_ok .nil) (.cons L16[0] (by kernel_rfl) L16_5 .nil)
def F17_R5 (e0_0 : Int × Unit → Option (Int × Unit)) (er_1 : Int × Unit → Option (Int × Unit)) (rec : List (List UInt8) × Int × Int × Unit → Option (Int × Unit)) (x3 : List (List UInt8) × Int × Int × Unit) : Option (Int × Unit) :=
 (cond (decide (x3.2.2.1 < (((List.length x3.1) : Nat) : Int)))
 (gd (decide ((0 : Int) ≤ x3.2.2.1))
 (Option.bind x3.1[(Int.toNat x3.2.2.1)]? fun y6 =>
 (cond (decide ((IntKind.wrap IntKind.i64 (x3.2.1 - (((List.length y6) : Nat) : Int))) < (0 : Int)))
 (er_1 ((-(1 : Int)), ()))
 (rec (x3.1, (IntKind.wrap IntKind.i64 (x3.2.1 - (((List.length y6) : Nat) : Int))), (IntKind.wrap IntKind.i64 (x3.2.2.1 + (1 : Int))), ())))))
 (e0_0 (x3.2.1, ())))
def F17 (a0 : List (List UInt8)) (a1 : Int) : Option (Int × Unit) :=
 (cond (decide ((IntKind.wrap IntKind.i64 (a1 - (((List.length a0) : Nat) : Int))) < (0 : Int)))
 (some ((-(1 : Int)), ()))
 (iter (F17_R5
 (fun y7 =>
 (some (y7.1, ())))
 (fun y8 =>
 (some (y8.1, ())))) fuel (a0, (IntKind.wrap IntKind.i64 (a1 - (((List.length a0) : Nat) : Int))), (0 : Int), ())))
def C17 : Fun := ⟨[(.ro (.slice .str)), (.ro (.int .i64))], [((.int .i64), .z)], fun z => F17 z.1 z.2.1⟩
def E17 : Env := ⟨28, tyTab tys, oneTab ones, fnTab [], false, [], [(4, [0, 1], []), (5, [0, 1, 5], []), (6, [0, 1, 5], []), (7, [0, 1, 5], []), (10, [1], []), (100000, [1], []), (100001, [0, 1, 5], []), (99999, [4], [])], none, [], []⟩
def L17 : List (LoopS (Int × Unit)) := [⟨5, ⟨[(0, (.pv (.slice .str))), (1, (.pv (.int .i64))), (5, (.pv (.int .i64)))], []⟩, fun κ => F17_R5 (fun y => κ.exit 0 (SSh.mk' ⟨[(1, (.pv (.int .i64)))], []⟩ y)) (fun y => κ.ret (SSh.mk' ⟨[(4, (.pv (.int .i64)))], []⟩ y))⟩]
theorem L17_5 : RoundEq E17 L17 L17[0] (nthLoop (codeOf Tryz.f17) 0) := fun κ N x => by kernel_rfl
theorem C17_ok : QuietOk Tryz.prog 17 C17 := tQ E17 L17 [nthLoop (codeOf Tryz.f17) 0] Tryz.func17 ty_ok .nil (.cons L17[0] (by kernel_rfl) L17_5 .nil)
def F4 (a0 : D27) (a1 : Int) : Option (Int × Unit) :=
 (Option.bind (F15 a0.1 a1) fun y0 =>
 (cond (decide (y0.1 < (0 : Int)))
 (some ((-(1 : Int)), ()))
 (Option.bind (F16 a0.2.1 y0.1) fun y2 =>
 (cond (decide (y2.1 < (0 : Int)))
 (some ((-(1 : Int)), ()))
 (Option.bind (F17 a0.2.2.2.2.1 y2.1) fun y4 =>
 (cond (decide (y4.1 < (0 : Int)))
 (some ((-(1 : Int)), ()))
 (cond (decide ((IntKind.wrap IntKind.i64 (y4.1 - (((List.length a0.2.2.2.2.2.1) : Nat) : Int))) < (0 : Int)))
 (some ((-(1 : Int)), ()))
 (some ((IntKind.wrap IntKind.i64 (y4.1 - (((List.length a0.2.2.2.2.2.1) : Nat) : Int))), ())))))))))
def C4 : Fun := ⟨[(.ro Y27), (.ro (.int .i64))], [((.int .i64), .z)], fun z => F4 z.1 z.2.1⟩
def E4 : Env := ⟨31, tyTab tys, oneTab ones, fnTab [(15, C15), (16, C16), (17, C17)], false, [], [(4, [1, 2], []), (7, [1, 2], []), (10, [1, 2], []), (13, [1], []), (99999, [4], [])], none, [], []⟩
def L4 : List (LoopS (Int × Unit)) := []
theorem C4_ok : QuietOk Tryz.prog 4 C4 := tQ E4 L4 [] Tryz.func4 ty_ok (.cons C15_ok (.cons C16_ok (.cons C17_ok .nil))) .nil
def F5_R5 (e0_0 : Int × Unit → Option (Int × Unit)) (er_1 : Int × Unit → Option (Int × Unit)) (rec : List (D52) × Int × Int × Unit → Option (Int × Unit)) (x3 : List (D52) × Int × Int × Unit) : Option (Int × Unit) :=
 (cond (decide (x3.2.2.1 < (((List.length x3.1) : Nat) : Int)))
 (gd (decide ((0 : Int) ≤ x3.2.2.1))
 (Option.bind x3.1[(Int.toNat x3.2.2.1)]? fun y6 =>
 (Option.bind (F18 y6 x3.2.1) fun y7 =>
 (cond (decide (y7.1 < (0 : Int)))
 (er_1 ((-(1 : Int)), ()))
 (rec (x3.1, y7.1, (IntKind.wrap IntKind.i64 (x3.2.2.1 + (1 : Int))), ()))))))
 (e0_0 (x3.2.1, ())))
def F5 (a0 : List (D52)) (a1 : Int) : Option (Int × Unit) :=
 (cond (decide ((IntKind.wrap IntKind.i64 (a1 - (((List.length a0) : Nat) : Int))) < (0 : Int)))
 (some ((-(1 : Int)), ()))
 (iter (F5_R5
 (fun y8 =>
 (some (y8.1, ())))
 (fun y9 =>
 (some (y9.1, ())))) fuel (a0, (IntKind.wrap IntKind.i64 (a1 - (((List.length a0) : Nat) : Int))), (0 : Int), ())))
def C5 : Fun := ⟨[(.ro (.slice Y52)), (.ro (.int .i64))], [((.int .i64), .z)], fun z => F5 z.1 z.2.1⟩
def E5 : Env := ⟨27, tyTab tys, oneTab ones, fnTab [(18, C18)], false, [], [(4, [0, 1], []), (5, [0, 1, 5], []), (6, [0, 1, 5], []), (7, [0, 1, 5], []), (10, [1], []), (100000, [1], []), (100001, [0, 1, 5], []), (99999, [4], [])], none, [], []⟩
def L5 : List (LoopS (Int × Unit)) := [⟨5, ⟨[(0, (.pv (.slice Y52))), (1, (.pv (.int .i64))), (5, (.pv (.int .i64)))], []⟩, fun κ => F5_R5 (fun y => κ.exit 0 (SSh.mk' ⟨[(1, (.pv (.int .i64)))], []⟩ y)) (fun y => κ.ret (SSh.mk' ⟨[(4, (.pv (.int .i64)))], []⟩ y))⟩]
theorem L5_5 : RoundEq E5 L5 L5[0] (nthLoop (codeOf Tryz.f5) 0) := fun κ N x => by kernel_rfl
theorem C5_ok : QuietOk Tryz.prog 5 C5 := tQ E5 L5 [nthLoop (codeOf Tryz.f5) 0] Tryz.func5 ty_ok (.cons C18_ok .nil) (.cons L5[0] (by kernel_rfl) L5_5 .nil)
def F40 (a0 : Int) (a1 : Int) (a2 : Int) : Option (Bool × Unit) :=
 (cond (decide (a1 ≤ a0))
 (some ((decide (a0 ≤ a2)), ()))
 (some (false, ())))
def C40 : Fun := ⟨[(.ro (.int .i64)), (.ro (.int .i64)), (.ro (.int .i64))], [(.bool, .z)], fun z => F40 z.1 z.2.1 z.2.2.1⟩
def E40 : Env := ⟨15, tyTab tys, oneTab ones, fnTab [], false, [], [(99999, [6], [])], none, [], []⟩
def L40 : List (LoopS (Bool × Unit)) := []
theorem C40_ok : QuietOk Tryz.prog 40 C40 := tQ E40 L40 [] Tryz.func40 ty_ok .nil .nil
def F146 (a0 : Int) : Option (Bool × Unit) :=
 (cond (decide (a0 ≥ (97 : Int)))
 (cond (decide (a0 ≤ (122 : Int)))
 (some (true, ()))
 (cond (decide (a0 ≥ (65 : Int)))
 (cond (decide (a0 ≤ (90 : Int)))
 (some (true, ()))
 (some ((a0 == (95 : Int)), ())))
 (some ((a0 == (95 : Int)), ()))))
 (cond (decide (a0 ≥ (65 : Int)))
 (cond (decide (a0 ≤ (90 : Int)))
 (some (true, ()))
 (some ((a0 == (95 : Int)), ())))
 (some ((a0 == (95 : Int)), ()))))
def C146 : Fun := ⟨[(.ro (.int .u8))], [(.bool, .z)], fun z => F146 z.1⟩
def E146 : Env := ⟨21, tyTab tys, oneTab ones, fnTab [], false, [], [(99999, [2], [])], none, [], []⟩
def L146 : List (LoopS (Bool × Unit)) := []
theorem C146_ok : QuietOk Tryz.prog 146 C146 := tQ E146 L146 [] Tryz.func146 ty_ok .nil .nil
def F147 (a0 : Int) : Option (Bool × Unit) :=
 (cond (decide (a0 ≥ (48 : Int)))
 (some ((decide (a0 ≤ (57 : Int))), ()))
 (some (false, ())))
def C147 : Fun := ⟨[(.ro (.int .u8))], [(.bool, .z)], fun z => F147 z.1⟩
def E147 : Env := ⟨9, tyTab tys, oneTab ones, fnTab [], false, [], [(99999, [2], [])], none, [], []⟩
def L147 : List (LoopS (Bool × Unit)) := []
theorem C147_ok : QuietOk Tryz.prog 147 C147 := tQ E147 L147 [] Tryz.func147 ty_ok .nil .nil
def F107_R4 (e0_0 : Unit → Option (Bool × Unit)) (er_1 : Bool × Unit → Option (Bool × Unit)) (rec : List UInt8 × Int × Unit → Option (Bool × Unit)) (x5 : List UInt8 × Int × Unit) : Option (Bool × Unit) :=
 (cond (decide (x5.2.1 < (((List.length x5.1) : Nat) : Int)))
 (let j12 : List UInt8 × Int × Unit → Option (Bool × Unit) := fun (y13 : List UInt8 × Int × Unit) =>
 (rec (y13.1, (IntKind.wrap IntKind.i64 (y13.2.1 + (1 : Int))), ()))
 (gd (decide ((0 : Int) ≤ x5.2.1))
 (Option.bind x5.1[(Int.toNat x5.2.1)]? fun y8 =>
 (Option.bind (F146 (((UInt8.toNat y8) : Nat) : Int)) fun y9 =>
 (cond (!y9.1)
 (gd (decide ((0 : Int) ≤ x5.2.1))
 (Option.bind x5.1[(Int.toNat x5.2.1)]? fun y10 =>
 (Option.bind (F147 (((UInt8.toNat y10) : Nat) : Int)) fun y11 =>
 (cond (!y11.1)
 (er_1 (false, ()))
 (j12 (x5.1, x5.2.1, ()))))))
 (j12 (x5.1, x5.2.1, ())))))))
 (e0_0 (())))
def F107 (a0 : List UInt8) : Option (Bool × Unit) :=
 (cond (decide ((((List.length a0) : Nat) : Int) < (1 : Int)))
 (some (false, ()))
 (cond (decide ((((List.length a0) : Nat) : Int) > (40 : Int)))
 (some (false, ()))
 (Option.bind a0[(Int.toNat (0 : Int))]? fun y1 =>
 (Option.bind (F146 (((UInt8.toNat y1) : Nat) : Int)) fun y2 =>
 (cond (!y2.1)
 (some (false, ()))
 (iter (F107_R4
 (fun y14 =>
 (some (true, ())))
 (fun y15 =>
 (some (y15.1, ())))) fuel (a0, (1 : Int), ())))))))
def C107 : Fun := ⟨[(.ro .str)], [(.bool, .z)], fun z => F107 z.1⟩
def E107 : Env := ⟨36, tyTab tys, oneTab ones, fnTab [(146, C146), (147, C147)], false, [], [(3, [0], []), (4, [0, 3], []), (5, [0, 3], []), (6, [0, 3], []), (8, [], []), (100000, [], []), (100001, [0, 3], []), (99999, [2], [])], none, [], []⟩
def L107 : List (LoopS (Bool × Unit)) := [⟨4, ⟨[(0, (.pv .str)), (3, (.pv (.int .i64)))], []⟩, fun κ => F107_R4 (fun y => κ.exit 0 (SSh.mk' ⟨[], []⟩ y)) (fun y => κ.ret (SSh.mk' ⟨[(2, (.pv .bool))], []⟩ y))⟩]
theorem L107_4 : RoundEq E107 L107 L107[0] (nthLoop (codeOf Tryz.f107) 0) := fun κ N x => by kernel_rfl
theorem C107_ok : QuietOk Tryz.prog 107 C107 := tQ E107 L107 [nthLoop (codeOf Tryz.f107) 0] Tryz.func107 ty_ok (.cons C146_ok (.cons C147_ok .nil)) (.cons L107[0] (by kernel_rfl) L107_4 .nil)
def F68 (a0 : List UInt8) : Option (Bool × Unit) :=
 (Option.bind (F107 a0) fun y0 =>
 (some (y0.1, ())))
def C68 : Fun := ⟨[(.ro .str)], [(.bool, .z)], fun z => F68 z.1⟩
def E68 : Env := ⟨5, tyTab tys, oneTab ones, fnTab [(107, C107)], false, [], [(99999, [2], [])], none, [], []⟩
def L68 : List (LoopS (Bool × Unit)) := []
theorem C68_ok : QuietOk Tryz.prog 68 C68 := tQ E68 L68 [] Tryz.func68 ty_ok (.cons C107_ok .nil) .nil
def F41 (a0 : List UInt8) : Option (Bool × Unit) :=
 (Option.bind (F68 a0) fun y0 =>
 (cond y0.1
 (some ((decide ((((List.length a0) : Nat) : Int) ≤ (12 : Int))), ()))
 (some (false, ()))))
def C41 : Fun := ⟨[(.ro .str)], [(.bool, .z)], fun z => F41 z.1⟩
def E41 : Env := ⟨10, tyTab tys, oneTab ones, fnTab [(68, C68)], false, [], [(99999, [2], [])], none, [], []⟩
def L41 : List (LoopS (Bool × Unit)) := []
theorem C41_ok : QuietOk Tryz.prog 41 C41 := tQ E41 L41 [] Tryz.func41 ty_ok (.cons C68_ok .nil) .nil
def F69_R4 (e0_0 : List UInt8 × Int × List (List UInt8) × Unit → Option (List (List UInt8) × Unit)) (rec : List UInt8 × Int × Int × Int × List (List UInt8) × Unit → Option (List (List UInt8) × Unit)) (x2 : List UInt8 × Int × Int × Int × List (List UInt8) × Unit) : Option (List (List UInt8) × Unit) :=
 (cond (decide (x2.2.2.2.1 < (((List.length x2.1) : Nat) : Int)))
 (let j6 : List UInt8 × Int × Int × Int × List (List UInt8) × Unit → Option (List (List UInt8) × Unit) := fun (y7 : List UInt8 × Int × Int × Int × List (List UInt8) × Unit) =>
 (rec (y7.1, y7.2.1, y7.2.2.1, (IntKind.wrap IntKind.i64 (y7.2.2.2.1 + (1 : Int))), y7.2.2.2.2.1, ()))
 (gd (decide ((0 : Int) ≤ x2.2.2.2.1))
 (Option.bind x2.1[(Int.toNat x2.2.2.2.1)]? fun y5 =>
 (cond ((((UInt8.toNat y5) : Nat) : Int) == x2.2.1)
 (gd (decide ((0 : Int) ≤ x2.2.2.2.1))
 (gd (decide (x2.2.2.2.1 ≤ (((List.length x2.1) : Nat) : Int)))
 (gd (decide ((0 : Int) ≤ x2.2.2.1))
 (gd (decide (x2.2.2.1 ≤ (((Int.toNat x2.2.2.2.1) : Nat) : Int)))
 (gd (decide (((List.length x2.2.2.2.2.1) + (List.length [(List.drop (Int.toNat x2.2.2.1) (List.take (Int.toNat x2.2.2.2.1) x2.1))])) ≤ lim))
 (j6 (x2.1, x2.2.1, (IntKind.wrap IntKind.i64 (x2.2.2.2.1 + (1 : Int))), x2.2.2.2.1, (x2.2.2.2.2.1 ++ [(List.drop (Int.toNat x2.2.2.1) (List.take (Int.toNat x2.2.2.2.1) x2.1))]), ())))))))
 (j6 (x2.1, x2.2.1, x2.2.2.1, x2.2.2.2.1, x2.2.2.2.2.1, ()))))))
 (e0_0 (x2.1, x2.2.2.1, x2.2.2.2.2.1, ())))
def F69 (a0 : List UInt8) (a1 : Int) : Option (List (List UInt8) × Unit) :=
 (iter (F69_R4
 (fun y8 =>
 (gd (decide ((((List.length y8.1) : Nat) : Int) ≤ (((List.length y8.1) : Nat) : Int)))
 (gd (decide ((0 : Int) ≤ y8.2.1))
 (gd (decide (y8.2.1 ≤ (((Int.toNat (((List.length y8.1) : Nat) : Int)) : Nat) : Int)))
 (gd (decide (((List.length y8.2.2.1) + (List.length [(List.drop (Int.toNat y8.2.1) (List.take (Int.toNat (((List.length y8.1) : Nat) : Int)) y8.1))])) ≤ lim))
 (some ((y8.2.2.1 ++ [(List.drop (Int.toNat y8.2.1) (List.take (Int.toNat (((List.length y8.1) : Nat) : Int)) y8.1))]), ())))))))) fuel (a0, a1, (0 : Int), (0 : Int), [], ()))
def C69 : Fun := ⟨[(.ro .str), (.ro (.int .u8))], [((.slice .str), .z)], fun z => F69 z.1 z.2.1⟩
def E69 : Env := ⟨35, tyTab tys, oneTab ones, fnTab [], false, [], [(4, [0, 1, 5, 6, 7], []), (5, [0, 1, 5, 6, 7], []), (6, [0, 1, 5, 6, 7], []), (9, [0, 5, 6], []), (100000, [0, 5, 6], []), (100001, [0, 1, 5, 6, 7], []), (99999, [4], [])], none, [], []⟩
def L69 : List (LoopS (List (List UInt8) × Unit)) := [⟨4, ⟨[(0, (.pv .str)), (1, (.pv (.int .u8))), (5, (.ref (.slice .str) 64 [])), (6, (.pv (.int .i64))), (7, (.pv (.int .i64)))], [(64, (.data false (.slice .str) (.own .z)))]⟩, fun κ => F69_R4 (fun y => κ.exit 0 (SSh.mk' ⟨[(0, (.pv .str)), (5, (.ref (.slice .str) 64 [])), (6, (.pv (.int .i64)))], [(64, (.data false (.slice .str) (.own .z)))]⟩ y))⟩]
theorem L69_4 : RoundEq E69 L69 L69[0] (nthLoop (codeOf Tryz.f69) 0) := fun κ N x => by kernel_rfl
theorem C69_ok : QuietOk Tryz.prog 69 C69 := tQ E69 L69 [nthLoop (codeOf Tryz.f69) 0] Tryz.func69 ty_ok .nil (.cons L69[0] (by kernel_rfl) L69_4 .nil)
def F42_R7 (e0_0 : Unit → Option (Bool × Unit)) (er_1 : Bool × Unit → Option (Bool × Unit)) (rec : List (List UInt8) × Int × Unit → Option (Bool × Unit)) (x5 : List (List UInt8) × Int × Unit) : Option (Bool × Unit) :=
 (cond (decide (x5.2.1 < (((List.length x5.1) : Nat) : Int)))
 (gd (decide ((0 : Int) ≤ x5.2.1))
 (Option.bind x5.1[(Int.toNat x5.2.1)]? fun y8 =>
 (Option.bind (F41 y8) fun y9 =>
 (cond (!y9.1)
 (er_1 (false, ()))
 (rec (x5.1, (IntKind.wrap IntKind.i64 (x5.2.1 + (1 : Int))), ()))))))
 (e0_0 (())))
def F42 (a0 : List UInt8) : Option (Bool × Unit) :=
 (cond (decide ((((List.length a0) : Nat) : Int) > (65536 : Int)))
 (some (false, ()))
 (Option.bind (F69 a0 (46 : Int)) fun y1 =>
 (cond (decide ((((List.length y1.1) : Nat) : Int) > (4 : Int)))
 (some (false, ()))
 (cond (decide ((((List.length a0) : Nat) : Int) > (50 : Int)))
 (some (false, ()))
 (iter (F42_R7
 (fun y10 =>
 (some (true, ())))
 (fun y11 =>
 (some (y11.1, ())))) fuel (y1.1, (0 : Int), ()))))))
def C42 : Fun := ⟨[(.ro .str)], [(.bool, .z)], fun z => F42 z.1⟩
def E42 : Env := ⟨30, tyTab tys, oneTab ones, fnTab [(41, C41), (69, C69)], false, [], [(3, [0], []), (6, [3], []), (7, [3, 4], []), (8, [3, 4], []), (9, [3, 4], []), (11, [], []), (100000, [], []), (100001, [3, 4], []), (99999, [2], [])], none, [], []⟩
def L42 : List (LoopS (Bool × Unit)) := [⟨7, ⟨[(3, (.pv (.slice .str))), (4, (.pv (.int .i64)))], []⟩, fun κ => F42_R7 (fun y => κ.exit 0 (SSh.mk' ⟨[], []⟩ y)) (fun y => κ.ret (SSh.mk' ⟨[(2, (.pv .bool))], []⟩ y))⟩]
theorem L42_7 : RoundEq E42 L42 L42[0] (nthLoop (codeOf Tryz.f42) 0) := fun κ N x => by kernel_rfl
theorem C42_ok : QuietOk Tryz.prog 42 C42 := tQ E42 L42 [nthLoop (codeOf Tryz.f42) 0] Tryz.func42 ty_ok (.cons C41_ok (.cons C69_ok .nil)) (.cons L42[0] (by kernel_rfl) L42_7 .nil)
def F152_R3 (e0_0 : Int × Unit → Option (Int × Unit)) (rec : List UInt8 × Int × Int × Unit → Option (Int × Unit)) (x2 : List UInt8 × Int × Int × Unit) : Option (Int × Unit) :=
 (cond (decide (x2.2.2.1 < (((List.length x2.1) : Nat) : Int)))
 (gd (decide ((0 : Int) ≤ x2.2.2.1))
 (Option.bind x2.1[(Int.toNat x2.2.2.1)]? fun y4 =>
 (rec (x2.1, (IntKind.wrap IntKind.i64 ((IntKind.wrap IntKind.i64 (x2.2.1 * (256 : Int))) + (IntKind.wrap IntKind.i64 (((UInt8.toNat y4) : Nat) : Int)))), (IntKind.wrap IntKind.i64 (x2.2.2.1 + (1 : Int))), ()))))
 (e0_0 (x2.2.1, ())))
def F152 (a0 : List UInt8) : Option (Int × Unit) :=
 (iter (F152_R3
 (fun y5 =>
 (some (y5.1, ())))) fuel (a0, (0 : Int), (0 : Int), ()))
def C152 : Fun := ⟨[(.ro .str)], [((.int .i64), .z)], fun z => F152 z.1⟩
def E152 : Env := ⟨19, tyTab tys, oneTab ones, fnTab [], false, [], [(3, [0, 3, 4], []), (5, [0, 3, 4], []), (6, [3], []), (100000, [3], []), (100001, [0, 3, 4], []), (99999, [2], [])], none, [], []⟩
def L152 : List (LoopS (Int × Unit)) := [⟨3, ⟨[(0, (.pv .str)), (3, (.pv (.int .i64))), (4, (.pv (.int .i64)))], []⟩, fun κ => F152_R3 (fun y => κ.exit 0 (SSh.mk' ⟨[(3, (.pv (.int .i64)))], []⟩ y))⟩]
theorem L152_3 : RoundEq E152 L152 L152[0] (nthLoop (codeOf Tryz.f152) 0) := fun κ N x => by kernel_rfl
theorem C152_ok : QuietOk Tryz.prog 152 C152 := tQ E152 L152 [nthLoop (codeOf Tryz.f152) 0] Tryz.func152 ty_ok .nil (.cons L152[0] (by kernel_rfl) L152_3 .nil)
def F112 (a0 : List UInt8) : Option (D52 × List UInt8 × Bool × Unit) :=
 (cond ((((List.length a0) : Nat) : Int) == (0 : Int))
 (some (((0 : Int), ((0 : Int), ([], ()))), ([], (false, ()))))
 (Option.bind a0[(Int.toNat (0 : Int))]? fun y1 =>
 (let j13 : List UInt8 × Int × D52 × D52 × Unit → Option (D52 × List UInt8 × Bool × Unit) := fun (y14 : List UInt8 × Int × D52 × D52 × Unit) =>
 (cond (decide ((((List.length y14.1) : Nat) : Int) < (IntKind.wrap IntKind.i64 ((1 : Int) + y14.2.1))))
 (some (((0 : Int), ((0 : Int), ([], ()))), ([], (false, ()))))
 (let j21 : List UInt8 × Int × D52 × D52 × Unit → Option (D52 × List UInt8 × Bool × Unit) := fun (y22 : List UInt8 × Int × D52 × D52 × Unit) =>
 (gd (decide ((((List.length y22.1) : Nat) : Int) ≤ (((List.length y22.1) : Nat) : Int)))
 (gd (decide ((0 : Int) ≤ (IntKind.wrap IntKind.i64 ((1 : Int) + y22.2.1))))
 (gd (decide ((IntKind.wrap IntKind.i64 ((1 : Int) + y22.2.1)) ≤ (((Int.toNat (((List.length y22.1) : Nat) : Int)) : Nat) : Int)))
 (some (y22.2.2.2.1, ((List.drop (Int.toNat (IntKind.wrap IntKind.i64 ((1 : Int) + y22.2.1))) (List.take (Int.toNat (((List.length y22.1) : Nat) : Int)) y22.1)), (true, ())))))))
 (cond (y14.2.1 == (1 : Int))
 (Option.bind y14.1[(Int.toNat (1 : Int))]? fun y17 =>
 (j21 (y14.1, y14.2.1, y14.2.2.1, (y14.2.2.2.1.1, ((IntKind.wrap IntKind.i64 (((UInt8.toNat y17) : Nat) : Int)), y14.2.2.2.1.2.2)), ())))
 (Option.bind y14.1[(Int.toNat (1 : Int))]? fun y19 =>
 (cond (decide ((((UInt8.toNat y19) : Nat) : Int) > (127 : Int)))
 (some (((0 : Int), ((0 : Int), ([], ()))), ([], (false, ()))))
 (gd (decide ((9 : Int) ≤ (((List.length y14.1) : Nat) : Int)))
 (Option.bind (F152 (List.drop (Int.toNat (1 : Int)) (List.take (Int.toNat (9 : Int)) y14.1))) fun y20 =>
 (j21 (y14.1, y14.2.1, y14.2.2.1, (y14.2.2.2.1.1, ((IntKind.wrap IntKind.i64 (y20.1 - (4611686018427387904 : Int))), y14.2.2.2.1.2.2)), ())))))))))
 (cond ((IntKind.wrap IntKind.i64 (((UInt8.toNat y1) : Nat) : Int)) == (0 : Int))
 (gd (decide ((((List.length a0) : Nat) : Int) ≤ (((List.length a0) : Nat) : Int)))
 (gd (decide ((1 : Int) ≤ (((Int.toNat (((List.length a0) : Nat) : Int)) : Nat) : Int)))
 (some (((IntKind.wrap IntKind.i64 (((UInt8.toNat y1) : Nat) : Int)), ((0 : Int), ([], ()))), ((List.drop (Int.toNat (1 : Int)) (List.take (Int.toNat (((List.length a0) : Nat) : Int)) a0)), (true, ()))))))
 (cond ((IntKind.wrap IntKind.i64 (((UInt8.toNat y1) : Nat) : Int)) == (1 : Int))
 (j13 (a0, (1 : Int), ((0 : Int), ((0 : Int), ([], ()))), ((IntKind.wrap IntKind.i64 (((UInt8.toNat y1) : Nat) : Int)), ((0 : Int), ([], ()))), ()))
 (cond ((IntKind.wrap IntKind.i64 (((UInt8.toNat y1) : Nat) : Int)) == (2 : Int))
 (j13 (a0, (8 : Int), ((0 : Int), ((0 : Int), ([], ()))), ((IntKind.wrap IntKind.i64 (((UInt8.toNat y1) : Nat) : Int)), ((0 : Int), ([], ()))), ()))
 (cond ((IntKind.wrap IntKind.i64 (((UInt8.toNat y1) : Nat) : Int)) == (3 : Int))
 (cond ((IntKind.wrap IntKind.i64 (((UInt8.toNat y1) : Nat) : Int)) == (3 : Int))
 (cond (decide ((((List.length a0) : Nat) : Int) < (3 : Int)))
 (some (((0 : Int), ((0 : Int), ([], ()))), ([], (false, ()))))
 (gd (decide ((3 : Int) ≤ (((List.length a0) : Nat) : Int)))
 (Option.bind (F152 (List.drop (Int.toNat (1 : Int)) (List.take (Int.toNat (3 : Int)) a0))) fun y5 =>
 (cond (decide ((((List.length a0) : Nat) : Int) < (IntKind.wrap IntKind.i64 ((3 : Int) + y5.1))))
 (some (((0 : Int), ((0 : Int), ([], ()))), ([], (false, ()))))
 (gd (decide ((0 : Int) ≤ (IntKind.wrap IntKind.i64 ((3 : Int) + y5.1))))
 (gd (decide ((IntKind.wrap IntKind.i64 ((3 : Int) + y5.1)) ≤ (((List.length a0) : Nat) : Int)))
 (gd (decide ((3 : Int) ≤ (((Int.toNat (IntKind.wrap IntKind.i64 ((3 : Int) + y5.1))) : Nat) : Int)))
 (gd (decide ((((List.length a0) : Nat) : Int) ≤ (((List.length a0) : Nat) : Int)))
 (gd (decide ((0 : Int) ≤ (IntKind.wrap IntKind.i64 ((3 : Int) + y5.1))))
 (gd (decide ((IntKind.wrap IntKind.i64 ((3 : Int) + y5.1)) ≤ (((Int.toNat (((List.length a0) : Nat) : Int)) : Nat) : Int)))
 (some (((IntKind.wrap IntKind.i64 (((UInt8.toNat y1) : Nat) : Int)), ((0 : Int), ((List.drop (Int.toNat (3 : Int)) (List.take (Int.toNat (IntKind.wrap IntKind.i64 ((3 : Int) + y5.1))) a0)), ()))), ((List.drop (Int.toNat (IntKind.wrap IntKind.i64 ((3 : Int) + y5.1))) (List.take (Int.toNat (((List.length a0) : Nat) : Int)) a0)), (true, ()))))))))))))))
 (some (((0 : Int), ((0 : Int), ([], ()))), ([], (false, ())))))
 (cond ((IntKind.wrap IntKind.i64 (((UInt8.toNat y1) : Nat) : Int)) == (4 : Int))
 (cond ((IntKind.wrap IntKind.i64 (((UInt8.toNat y1) : Nat) : Int)) == (4 : Int))
 (cond (decide ((((List.length a0) : Nat) : Int) < (3 : Int)))
 (some (((0 : Int), ((0 : Int), ([], ()))), ([], (false, ()))))
 (gd (decide ((3 : Int) ≤ (((List.length a0) : Nat) : Int)))
 (Option.bind (F152 (List.drop (Int.toNat (1 : Int)) (List.take (Int.toNat (3 : Int)) a0))) fun y8 =>
 (cond (decide ((((List.length a0) : Nat) : Int) < (IntKind.wrap IntKind.i64 ((3 : Int) + y8.1))))
 (some (((0 : Int), ((0 : Int), ([], ()))), ([], (false, ()))))
 (gd (decide ((0 : Int) ≤ (IntKind.wrap IntKind.i64 ((3 : Int) + y8.1))))
 (gd (decide ((IntKind.wrap IntKind.i64 ((3 : Int) + y8.1)) ≤ (((List.length a0) : Nat) : Int)))
 (gd (decide ((3 : Int) ≤ (((Int.toNat (IntKind.wrap IntKind.i64 ((3 : Int) + y8.1))) : Nat) : Int)))
 (gd (decide ((((List.length a0) : Nat) : Int) ≤ (((List.length a0) : Nat) : Int)))
 (gd (decide ((0 : Int) ≤ (IntKind.wrap IntKind.i64 ((3 : Int) + y8.1))))
 (gd (decide ((IntKind.wrap IntKind.i64 ((3 : Int) + y8.1)) ≤ (((Int.toNat (((List.length a0) : Nat) : Int)) : Nat) : Int)))
 (some (((IntKind.wrap IntKind.i64 (((UInt8.toNat y1) : Nat) : Int)), ((0 : Int), ((List.drop (Int.toNat (3 : Int)) (List.take (Int.toNat (IntKind.wrap IntKind.i64 ((3 : Int) + y8.1))) a0)), ()))), ((List.drop (Int.toNat (IntKind.wrap IntKind.i64 ((3 : Int) + y8.1))) (List.take (Int.toNat (((List.length a0) : Nat) : Int)) a0)), (true, ()))))))))))))))
 (some (((0 : Int), ((0 : Int), ([], ()))), ([], (false, ())))))
 (cond ((IntKind.wrap IntKind.i64 (((UInt8.toNat y1) : Nat) : Int)) == (5 : Int))
 (cond (decide ((((List.length a0) : Nat) : Int) < (3 : Int)))
 (some (((0 : Int), ((0 : Int), ([], ()))), ([], (false, ()))))
 (gd (decide ((3 : Int) ≤ (((List.length a0) : Nat) : Int)))
 (Option.bind (F152 (List.drop (Int.toNat (1 : Int)) (List.take (Int.toNat (3 : Int)) a0))) fun y11 =>
 (cond (decide ((((List.length a0) : Nat) : Int) < (IntKind.wrap IntKind.i64 ((3 : Int) + y11.1))))
 (some (((0 : Int), ((0 : Int), ([], ()))), ([], (false, ()))))
 (gd (decide ((0 : Int) ≤ (IntKind.wrap IntKind.i64 ((3 : Int) + y11.1))))
 (gd (decide ((IntKind.wrap IntKind.i64 ((3 : Int) + y11.1)) ≤ (((List.length a0) : Nat) : Int)))
 (gd (decide ((3 : Int) ≤ (((Int.toNat (IntKind.wrap IntKind.i64 ((3 : Int) + y11.1))) : Nat) : Int)))
 (gd (decide ((((List.length a0) : Nat) : Int) ≤ (((List.length a0) : Nat) : Int)))
 (gd (decide ((0 : Int) ≤ (IntKind.wrap IntKind.i64 ((3 : Int) + y11.1))))
 (gd (decide ((IntKind.wrap IntKind.i64 ((3 : Int) + y11.1)) ≤ (((Int.toNat (((List.length a0) : Nat) : Int)) : Nat) : Int)))
 (some (((IntKind.wrap IntKind.i64 (((UInt8.toNat y1) : Nat) : Int)), ((0 : Int), ((List.drop (Int.toNat (3 : Int)) (List.take (Int.toNat (IntKind.wrap IntKind.i64 ((3 : Int) + y11.1))) a0)), ()))), ((List.drop (Int.toNat (IntKind.wrap IntKind.i64 ((3 : Int) + y11.1))) (List.take (Int.toNat (((List.length a0) : Nat) : Int)) a0)), (true, ()))))))))))))))
 (some (((0 : Int), ((0 : Int), ([], ()))), ([], (false, ())))))))))))))
def C112 : Fun := ⟨[(.ro .str)], [(Y52, .z), (.str, .z), (.bool, .z)], fun z => F112 z.1⟩
def E112 : Env := ⟨81, tyTab tys, oneTab ones, fnTab [(152, C152)], false, [], [(3, [0, 2], []), (18, [0, 2, 5], []), (21, [0, 2, 5, 7], []), (23, [0, 2, 5, 6], []), (25, [0, 2, 5, 6], []), (29, [0, 2, 5, 6], []), (30, [0, 2, 5, 6], []), (100000, [0, 2, 5, 6], []), (99999, [2, 3, 4], [])], none, [], []⟩
def L112 : List (LoopS (D52 × List UInt8 × Bool × Unit)) := []
theorem C112_ok : QuietOk Tryz.prog 112 C112 := tQ E112 L112 [] Tryz.func112 ty_ok (.cons C152_ok .nil) .nil
def F74_R2 (e0_0 : List (D112) × Unit → Option (List (D112) × Bool × Unit)) (er_1 : Bool × List (D112) × Unit → Option (List (D112) × Bool × Unit)) (er_2 : Bool × List (D112) × Unit → Option (List (D112) × Bool × Unit)) (rec : List UInt8 × List (D112) × Unit → Option (List (D112) × Bool × Unit)) (x2 : List UInt8 × List (D112) × Unit) : Option (List (D112) × Bool × Unit) :=
 (cond (decide ((((List.length x2.1) : Nat) : Int) > (0 : Int)))
 (Option.bind x2.1[(Int.toNat (0 : Int))]? fun y4 =>
 (cond (decide ((((List.length x2.1) : Nat) : Int) < (IntKind.wrap IntKind.i64 ((1 : Int) + (IntKind.wrap IntKind.i64 (((UInt8.toNat y4) : Nat) : Int))))))
 (er_1 (false, [], ()))
 (gd (decide ((0 : Int) ≤ (IntKind.wrap IntKind.i64 ((1 : Int) + (IntKind.wrap IntKind.i64 (((UInt8.toNat y4) : Nat) : Int))))))
 (gd (decide ((IntKind.wrap IntKind.i64 ((1 : Int) + (IntKind.wrap IntKind.i64 (((UInt8.toNat y4) : Nat) : Int)))) ≤ (((List.length x2.1) : Nat) : Int)))
 (gd (decide ((1 : Int) ≤ (((Int.toNat (IntKind.wrap IntKind.i64 ((1 : Int) + (IntKind.wrap IntKind.i64 (((UInt8.toNat y4) : Nat) : Int))))) : Nat) : Int)))
 (gd (decide ((((List.length x2.1) : Nat) : Int) ≤ (((List.length x2.1) : Nat) : Int)))
 (gd (decide ((0 : Int) ≤ (IntKind.wrap IntKind.i64 ((1 : Int) + (IntKind.wrap IntKind.i64 (((UInt8.toNat y4) : Nat) : Int))))))
 (gd (decide ((IntKind.wrap IntKind.i64 ((1 : Int) + (IntKind.wrap IntKind.i64 (((UInt8.toNat y4) : Nat) : Int)))) ≤ (((Int.toNat (((List.length x2.1) : Nat) : Int)) : Nat) : Int)))
 (Option.bind (F112 (List.drop (Int.toNat (IntKind.wrap IntKind.i64 ((1 : Int) + (IntKind.wrap IntKind.i64 (((UInt8.toNat y4) : Nat) : Int))))) (List.take (Int.toNat (((List.length x2.1) : Nat) : Int)) x2.1))) fun y6 =>
 (cond (!y6.2.2.1)
 (er_2 (false, [], ()))
 (gd (decide (((List.length x2.2.1) + (List.length [((List.drop (Int.toNat (1 : Int)) (List.take (Int.toNat (IntKind.wrap IntKind.i64 ((1 : Int) + (IntKind.wrap IntKind.i64 (((UInt8.toNat y4) : Nat) : Int))))) x2.1)), (y6.1, ()))])) ≤ lim))
 (rec (y6.2.1, (x2.2.1 ++ [((List.drop (Int.toNat (1 : Int)) (List.take (Int.toNat (IntKind.wrap IntKind.i64 ((1 : Int) + (IntKind.wrap IntKind.i64 (((UInt8.toNat y4) : Nat) : Int))))) x2.1)), (y6.1, ()))]), ())))))))))))))
 (e0_0 (x2.2.1, ())))
def F74 (a0 : List UInt8) : Option (List (D112) × Bool × Unit) :=
 (iter (F74_R2
 (fun y8 =>
 (some (y8.1, (true, ()))))
 (fun y9 =>
 (some (y9.2.1, (y9.1, ()))))
 (fun y10 =>
 (some (y10.2.1, (y10.1, ()))))) fuel (a0, [], ()))
def C74 : Fun := ⟨[(.ro .str)], [((.slice Y112), .z), (.bool, .z)], fun z => F74 z.1⟩
def E74 : Env := ⟨47, tyTab tys, oneTab ones, fnTab [(112, C112)], false, [], [(2, [0, 4], []), (3, [0, 4], []), (6, [0, 4, 5], []), (10, [4, 6, 7, 8], []), (12, [4], []), (100000, [4], []), (100001, [0, 4], []), (99999, [2, 3], [])], none, [], []⟩
def L74 : List (LoopS (List (D112) × Bool × Unit)) := [⟨2, ⟨[(0, (.pv .str)), (4, (.ref (.slice Y112) 80 []))], [(80, (.data false (.slice Y112) (.own .z)))]⟩, fun κ => F74_R2 (fun y => κ.exit 0 (SSh.mk' ⟨[(4, (.ref (.slice Y112) 80 []))], [(80, (.data false (.slice Y112) (.own .z)))]⟩ y)) (fun y => κ.ret (SSh.mk' ⟨[(2, (.ref (.slice Y112) 176 [])), (3, (.pv .bool))], [(176, (.data false (.slice Y112) (.own .z)))]⟩ y)) (fun y => κ.ret (SSh.mk' ⟨[(2, (.ref (.slice Y112) 304 [])), (3, (.pv .bool))], [(304, (.data false (.slice Y112) (.own .z)))]⟩ y))⟩]
theorem L74_2 : RoundEq E74 L74 L74[0] (nthLoop (codeOf Tryz.f74) 0) := fun κ N x => by kernel_rfl
theorem C74_ok : QuietOk Tryz.prog 74 C74 := tQ E74 L74 [nthLoop (codeOf Tryz.f74) 0] Tryz.func74 ty_ok (.cons C112_ok .nil) (.cons L74[0] (by kernel_rfl) L74_2 .nil)
def F148_R2 (e0_0 : List (D52) × Unit → Option (List (D52) × Bool × Unit)) (er_1 : Bool × List (D52) × Unit → Option (List (D52) × Bool × Unit)) (rec : List UInt8 × List (D52) × Unit → Option (List (D52) × Bool × Unit)) (x2 : List UInt8 × List (D52) × Unit) : Option (List (D52) × Bool × Unit) :=
 (cond (decide ((((List.length x2.1) : Nat) : Int) > (0 : Int)))
 (Option.bind (F112 x2.1) fun y4 =>
 (cond (!y4.2.2.1)
 (er_1 (false, [], ()))
 (gd (decide (((List.length x2.2.1) + (List.length [y4.1])) ≤ lim))
 (rec (y4.2.1, (x2.2.1 ++ [y4.1]), ())))))
 (e0_0 (x2.2.1, ())))
def F148 (a0 : List UInt8) : Option (List (D52) × Bool × Unit) :=
 (iter (F148_R2
 (fun y6 =>
 (some (y6.1, (true, ()))))
 (fun y7 =>
 (some (y7.2.1, (y7.1, ()))))) fuel (a0, [], ()))
def C148 : Fun := ⟨[(.ro .str)], [((.slice Y52), .z), (.bool, .z)], fun z => F148 z.1⟩
def E148 : Env := ⟨27, tyTab tys, oneTab ones, fnTab [(112, C112)], false, [], [(2, [0, 4], []), (3, [0, 4], []), (6, [4, 5, 6], []), (8, [4], []), (100000, [4], []), (100001, [0, 4], []), (99999, [2, 3], [])], none, [], []⟩
def L148 : List (LoopS (List (D52) × Bool × Unit)) := [⟨2, ⟨[(0, (.pv .str)), (4, (.ref (.slice Y52) 64 []))], [(64, (.data false (.slice Y52) (.own .z)))]⟩, fun κ => F148_R2 (fun y => κ.exit 0 (SSh.mk' ⟨[(4, (.ref (.slice Y52) 64 []))], [(64, (.data false (.slice Y52) (.own .z)))]⟩ y)) (fun y => κ.ret (SSh.mk' ⟨[(2, (.ref (.slice Y52) 160 [])), (3, (.pv .bool))], [(160, (.data false (.slice Y52) (.own .z)))]⟩ y))⟩]
theorem L148_2 : RoundEq E148 L148 L148[0] (nthLoop (codeOf Tryz.f148) 0) := fun κ N x => by kernel_rfl
theorem C148_ok : QuietOk Tryz.prog 148 C148 := tQ E148 L148 [nthLoop (codeOf Tryz.f148) 0] Tryz.func148 ty_ok (.cons C112_ok .nil) (.cons L148[0] (by kernel_rfl) L148_2 .nil)
abbrev G108 : Type := (D52) → (Int) → Option (Bool × Unit)
def H108 (g : G108) : Fun := ⟨[(.ro Y52), (.ro (.int .i64))], [(.bool, .z)], fun z => g z.1 z.2.1⟩
def B108_R15 (g : G108) (e1_0 : Unit → Option (Bool × Unit)) (er_1 : Bool × Unit → Option (Bool × Unit)) (rec : Int × List (D52) × Int × Unit → Option (Bool × Unit)) (x7 : Int × List (D52) × Int × Unit) : Option (Bool × Unit) :=
 (cond (decide (x7.2.2.1 < (((List.length x7.2.1) : Nat) : Int)))
 (gd (decide ((0 : Int) ≤ x7.2.2.1))
 (Option.bind x7.2.1[(Int.toNat x7.2.2.1)]? fun y10 =>
 (Option.bind (g y10 (IntKind.wrap IntKind.i64 (x7.1 - (1 : Int)))) fun y11 =>
 (cond (!y11.1)
 (er_1 (false, ()))
 (rec (x7.1, x7.2.1, (IntKind.wrap IntKind.i64 (x7.2.2.1 + (1 : Int))), ()))))))
 (e1_0 (())))
def B108_R25 (g : G108) (e3_0 : Unit → Option (Bool × Unit)) (er_1 : Bool × Unit → Option (Bool × Unit)) (rec : Int × List (D112) × Int × Unit → Option (Bool × Unit)) (x18 : Int × List (D112) × Int × Unit) : Option (Bool × Unit) :=
 (cond (decide (x18.2.2.1 < (((List.length x18.2.1) : Nat) : Int)))
 (let j29 : Int × List (D112) × Int × Unit → Option (Bool × Unit) := fun (y30 : Int × List (D112) × Int × Unit) =>
 (rec (y30.1, y30.2.1, (IntKind.wrap IntKind.i64 (y30.2.2.1 + (1 : Int))), ()))
 (gd (decide ((0 : Int) ≤ x18.2.2.1))
 (Option.bind x18.2.1[(Int.toNat x18.2.2.1)]? fun y21 =>
 (Option.bind (F41 y21.1) fun y22 =>
 (cond (!y22.1)
 (er_1 (false, ()))
 (cond (decide (x18.2.2.1 > (0 : Int)))
 (gd (decide ((0 : Int) ≤ (IntKind.wrap IntKind.i64 (x18.2.2.1 - (1 : Int)))))
 (Option.bind x18.2.1[(Int.toNat (IntKind.wrap IntKind.i64 (x18.2.2.1 - (1 : Int))))]? fun y23 =>
 (gd (decide ((0 : Int) ≤ x18.2.2.1))
 (Option.bind x18.2.1[(Int.toNat x18.2.2.1)]? fun y24 =>
 (cond (!(Op.bytesLess y23.1 y24.1))
 (er_1 (false, ()))
 (gd (decide ((0 : Int) ≤ x18.2.2.1))
 (Option.bind x18.2.1[(Int.toNat x18.2.2.1)]? fun y25 =>
 (Option.bind (g y25.2.1 (IntKind.wrap IntKind.i64 (x18.1 - (1 : Int)))) fun y26 =>
 (cond (!y26.1)
 (er_1 (false, ()))
 (j29 (x18.1, x18.2.1, x18.2.2.1, ())))))))))))
 (gd (decide ((0 : Int) ≤ x18.2.2.1))
 (Option.bind x18.2.1[(Int.toNat x18.2.2.1)]? fun y27 =>
 (Option.bind (g y27.2.1 (IntKind.wrap IntKind.i64 (x18.1 - (1 : Int)))) fun y28 =>
 (cond (!y28.1)
 (er_1 (false, ()))
 (j29 (x18.1, x18.2.1, x18.2.2.1, ()))))))))))))
 (e3_0 (())))
def B108 (g : G108) (a0 : D52) (a1 : Int) : Option (Bool × Unit) :=
 (cond (a0.1 == (0 : Int))
 (cond (a0.2.1 == (0 : Int))
 (some ((a0.2.2.1 == []), ()))
 (some (false, ())))
 (cond (a0.1 == (1 : Int))
 (Option.bind (F40 a0.2.1 (0 : Int) (1 : Int)) fun y1 =>
 (cond y1.1
 (some ((a0.2.2.1 == []), ()))
 (some (false, ()))))
 (cond (a0.1 == (2 : Int))
 (Option.bind (F40 a0.2.1 (-(1000000000000 : Int)) (1000000000000 : Int)) fun y2 =>
 (cond y2.1
 (some ((a0.2.2.1 == []), ()))
 (some (false, ()))))
 (cond (a0.1 == (3 : Int))
 (cond (a0.2.1 == (0 : Int))
 (some ((decide ((((List.length a0.2.2.1) : Nat) : Int) ≤ (300 : Int))), ()))
 (some (false, ())))
 (cond (a0.1 == (4 : Int))
 (Option.bind (F148 a0.2.2.1) fun y3 =>
 (cond (a0.2.1 != (0 : Int))
 (some (false, ()))
 (cond (!y3.2.1)
 (some (false, ()))
 (cond (decide ((((List.length a0.2.2.1) : Nat) : Int) > (300 : Int)))
 (some (false, ()))
 (cond (a1 == (0 : Int))
 (some (false, ()))
 (iter (B108_R15 g
 (fun y12 =>
 (some (true, ())))
 (fun y13 =>
 (some (y13.1, ())))) fuel (a1, y3.1, (0 : Int), ())))))))
 (cond (a0.1 == (5 : Int))
 (Option.bind (F74 a0.2.2.1) fun y14 =>
 (cond (a0.2.1 != (0 : Int))
 (some (false, ()))
 (cond (!y14.2.1)
 (some (false, ()))
 (cond (decide ((((List.length a0.2.2.1) : Nat) : Int) > (300 : Int)))
 (some (false, ()))
 (cond (a1 == (0 : Int))
 (some (false, ()))
 (iter (B108_R25 g
 (fun y31 =>
 (some (true, ())))
 (fun y32 =>
 (some (y32.1, ())))) fuel (a1, y14.1, (0 : Int), ())))))))
 (some (false, ()))))))))
def K108 (g : G108) : Fun := ⟨[(.ro Y52), (.ro (.int .i64))], [(.bool, .z)], fun z => B108 g z.1 z.2.1⟩
def E108 (g : G108) : Env := ⟨160, tyTab tys, oneTab ones, fnTab [(40, C40), (41, C41), (74, C74), (108, (H108 g)), (148, C148)], false, [], [(14, [1, 5], []), (15, [1, 5, 7], []), (16, [1, 5, 7], []), (17, [1, 5, 7], []), (19, [], []), (24, [1, 8], []), (25, [1, 8, 10], []), (26, [1, 8, 10], []), (27, [1, 8, 10], []), (29, [], []), (30, [], []), (100000, [], []), (100001, [], []), (100002, [1, 5, 7], []), (100003, [], []), (100004, [1, 8, 10], []), (99999, [4], [])], none, [], []⟩
def L108 (g : G108) : List (LoopS (Bool × Unit)) := [⟨15, ⟨[(1, (.pv (.int .i64))), (5, (.pv (.slice Y52))), (7, (.pv (.int .i64)))], []⟩, fun κ => B108_R15 g (fun y => κ.exit 1 (SSh.mk' ⟨[], []⟩ y)) (fun y => κ.ret (SSh.mk' ⟨[(4, (.pv .bool))], []⟩ y))⟩,
  ⟨25, ⟨[(1, (.pv (.int .i64))), (8, (.pv (.slice Y112))), (10, (.pv (.int .i64)))], []⟩, fun κ => B108_R25 g (fun y => κ.exit 3 (SSh.mk' ⟨[], []⟩ y)) (fun y => κ.ret (SSh.mk' ⟨[(4, (.pv .bool))], []⟩ y))⟩]
theorem L108_25 (g : G108) : RoundEq (E108 g) (L108 g) ((L108 g)[1]'(Nat.le_of_ble_eq_true rfl)) (nthLoop (codeOf Tryz.f108) 1) := fun κ N x => by kernel_rfl
theorem L108_15 (g : G108) : RoundEq (E108 g) (L108 g) ((L108 g)[0]'(Nat.le_of_ble_eq_true rfl)) (nthLoop (codeOf Tryz.f108) 0) := fun κ N x => by kernel_rfl
theorem K108_ok (g : G108) (hg : QuietOk Tryz.prog 108 (H108 g)) : QuietOk Tryz.prog 108 (K108 g) := tQ (E108 g) (L108 g) [nthLoop (codeOf Tryz.f108) 0, nthLoop (codeOf Tryz.f108) 1] Tryz.func108 ty_ok (.cons C40_ok (.cons C41_ok (.cons C74_ok (.cons hg (.cons C148_ok .nil))))) (.cons ((L108 g)[0]'(Nat.le_of_ble_eq_true rfl)) (by kernel_rfl) (L108_15 g) (.cons ((L108 g)[1]'(Nat.le_of_ble_eq_true rfl)) (by kernel_rfl) (L108_25 g) .nil))
def S108 : Nat → G108
  | 0 => fun _ _ => none
  | k + 1 => B108 (S108 k)
def F108 : G108 := S108 fuel
def C108 : Fun := H108 F108
theorem C108_all : ∀ k, QuietOk Tryz.prog 108 (H108 (S108 k))
  | 0 => QuietOk.none Tryz.func108 (by rfl) (by decide) fun _ => rfl
  | k + 1 => K108_ok (S108 k) (C108_all k)
theorem C108_ok : QuietOk Tryz.prog 108 C108 := C108_all fuel
def F70 (a0 : D52) : Option (Bool × Unit) :=
 (cond (decide ((((List.length a0.2.2.1) : Nat) : Int) ≤ (65536 : Int)))
 (Option.bind (F108 a0 (5 : Int)) fun y0 =>
 (some (y0.1, ())))
 (some (false, ())))
def C70 : Fun := ⟨[(.ro Y52)], [(.bool, .z)], fun z => F70 z.1⟩
def E70 : Env := ⟨11, tyTab tys, oneTab ones, fnTab [(108, C108)], false, [], [(99999, [2], [])], none, [], []⟩
def L70 : List (LoopS (Bool × Unit)) := []
theorem C70_ok : QuietOk Tryz.prog 70 C70 := tQ E70 L70 [] Tryz.func70 ty_ok (.cons C108_ok .nil) .nil
def F67 (a0 : D102) : Option (Bool × Unit) :=
 (cond (decide ((((List.length a0.2.1) : Nat) : Int) > (65536 : Int)))
 (some (false, ()))
 (Option.bind (F42 a0.2.1) fun y1 =>
 (cond (!y1.1)
 (some (false, ()))
 (Option.bind (F70 a0.2.2.1) fun y2 =>
 (cond (!y2.1)
 (some (false, ()))
 (let j11 : Unit → Option (Bool × Unit) := fun (y12 : Unit) =>
 (some (false, ()))
 (cond (a0.1 == (1 : Int))
 (cond (a0.1 == (1 : Int))
 (some (true, ()))
 (cond (a0.1 == (7 : Int))
 (some ((a0.2.2.1.1 == (4 : Int)), ()))
 (cond (a0.1 == (8 : Int))
 (some ((a0.2.2.1.1 == (1 : Int)), ()))
 (cond (a0.1 == (9 : Int))
 (cond (a0.2.2.1.1 == (2 : Int))
 (Option.bind (F40 a0.2.2.1.2.1 (0 : Int) (5 : Int)) fun y5 =>
 (some (y5.1, ())))
 (some (false, ())))
 (cond (a0.1 == (10 : Int))
 (cond (a0.2.2.1.1 == (2 : Int))
 (some ((decide (a0.2.2.1.2.1 ≥ (0 : Int))), ()))
 (some (false, ())))
 (j11 (())))))))
 (cond (a0.1 == (2 : Int))
 (cond (a0.1 == (2 : Int))
 (some (true, ()))
 (cond (a0.1 == (7 : Int))
 (some ((a0.2.2.1.1 == (4 : Int)), ()))
 (cond (a0.1 == (8 : Int))
 (some ((a0.2.2.1.1 == (1 : Int)), ()))
 (cond (a0.1 == (9 : Int))
 (cond (a0.2.2.1.1 == (2 : Int))
 (Option.bind (F40 a0.2.2.1.2.1 (0 : Int) (5 : Int)) fun y6 =>
 (some (y6.1, ())))
 (some (false, ())))
 (cond (a0.1 == (10 : Int))
 (cond (a0.2.2.1.1 == (2 : Int))
 (some ((decide (a0.2.2.1.2.1 ≥ (0 : Int))), ()))
 (some (false, ())))
 (j11 (())))))))
 (cond (a0.1 == (3 : Int))
 (cond (a0.1 == (3 : Int))
 (some (true, ()))
 (cond (a0.1 == (7 : Int))
 (some ((a0.2.2.1.1 == (4 : Int)), ()))
 (cond (a0.1 == (8 : Int))
 (some ((a0.2.2.1.1 == (1 : Int)), ()))
 (cond (a0.1 == (9 : Int))
 (cond (a0.2.2.1.1 == (2 : Int))
 (Option.bind (F40 a0.2.2.1.2.1 (0 : Int) (5 : Int)) fun y7 =>
 (some (y7.1, ())))
 (some (false, ())))
 (cond (a0.1 == (10 : Int))
 (cond (a0.2.2.1.1 == (2 : Int))
 (some ((decide (a0.2.2.1.2.1 ≥ (0 : Int))), ()))
 (some (false, ())))
 (j11 (())))))))
 (cond (a0.1 == (4 : Int))
 (cond (a0.1 == (4 : Int))
 (some (true, ()))
 (cond (a0.1 == (7 : Int))
 (some ((a0.2.2.1.1 == (4 : Int)), ()))
 (cond (a0.1 == (8 : Int))
 (some ((a0.2.2.1.1 == (1 : Int)), ()))
 (cond (a0.1 == (9 : Int))
 (cond (a0.2.2.1.1 == (2 : Int))
 (Option.bind (F40 a0.2.2.1.2.1 (0 : Int) (5 : Int)) fun y8 =>
 (some (y8.1, ())))
 (some (false, ())))
 (cond (a0.1 == (10 : Int))
 (cond (a0.2.2.1.1 == (2 : Int))
 (some ((decide (a0.2.2.1.2.1 ≥ (0 : Int))), ()))
 (some (false, ())))
 (j11 (())))))))
 (cond (a0.1 == (5 : Int))
 (cond (a0.1 == (5 : Int))
 (some (true, ()))
 (cond (a0.1 == (7 : Int))
 (some ((a0.2.2.1.1 == (4 : Int)), ()))
 (cond (a0.1 == (8 : Int))
 (some ((a0.2.2.1.1 == (1 : Int)), ()))
 (cond (a0.1 == (9 : Int))
 (cond (a0.2.2.1.1 == (2 : Int))
 (Option.bind (F40 a0.2.2.1.2.1 (0 : Int) (5 : Int)) fun y9 =>
 (some (y9.1, ())))
 (some (false, ())))
 (cond (a0.1 == (10 : Int))
 (cond (a0.2.2.1.1 == (2 : Int))
 (some ((decide (a0.2.2.1.2.1 ≥ (0 : Int))), ()))
 (some (false, ())))
 (j11 (())))))))
 (cond (a0.1 == (6 : Int))
 (some (true, ()))
 (cond (a0.1 == (7 : Int))
 (some ((a0.2.2.1.1 == (4 : Int)), ()))
 (cond (a0.1 == (8 : Int))
 (some ((a0.2.2.1.1 == (1 : Int)), ()))
 (cond (a0.1 == (9 : Int))
 (cond (a0.2.2.1.1 == (2 : Int))
 (Option.bind (F40 a0.2.2.1.2.1 (0 : Int) (5 : Int)) fun y10 =>
 (some (y10.1, ())))
 (some (false, ())))
 (cond (a0.1 == (10 : Int))
 (cond (a0.2.2.1.1 == (2 : Int))
 (some ((decide (a0.2.2.1.2.1 ≥ (0 : Int))), ()))
 (some (false, ())))
 (j11 (()))))))))))))))))))
def C67 : Fun := ⟨[(.ro Y102)], [(.bool, .z)], fun z => F67 z.1⟩
def E67 : Env := ⟨64, tyTab tys, oneTab ones, fnTab [(40, C40), (42, C42), (70, C70)], false, [], [(3, [1], []), (19, [], []), (100000, [], []), (99999, [2], [])], none, [], []⟩
def L67 : List (LoopS (Bool × Unit)) := []
theorem C67_ok : QuietOk Tryz.prog 67 C67 := tQ E67 L67 [] Tryz.func67 ty_ok (.cons C40_ok (.cons C42_ok (.cons C70_ok .nil))) .nil
def F39_R9 (e2_0 : Int × D23 × Unit → Option (Bool × Unit)) (er_1 : Bool × Unit → Option (Bool × Unit)) (rec : Int × Int × D23 × Unit → Option (Bool × Unit)) (x10 : Int × Int × D23 × Unit) : Option (Bool × Unit) :=
 (gd (decide ((0 : Int) ≤ x10.1))
 (Option.bind x10.2.2.1.1[(Int.toNat x10.1)]? fun y12 =>
 (cond (decide (x10.2.1 < (((List.length y12.1) : Nat) : Int)))
 (gd (decide ((0 : Int) ≤ x10.1))
 (Option.bind x10.2.2.1.1[(Int.toNat x10.1)]? fun y14 =>
 (gd (decide ((0 : Int) ≤ x10.2.1))
 (Option.bind y14.1[(Int.toNat x10.2.1)]? fun y15 =>
 (Option.bind (F67 y15) fun y16 =>
 (cond (!y16.1)
 (er_1 (false, ()))
 (rec (x10.1, (IntKind.wrap IntKind.i64 (x10.2.1 + (1 : Int))), x10.2.2.1, ()))))))))
 (e2_0 (x10.1, x10.2.2.1, ())))))
def F39_R4 (e0_0 : Unit → Option (Bool × Unit)) (er_1 : Bool × Unit → Option (Bool × Unit)) (rec : Int × D23 × Unit → Option (Bool × Unit)) (x4 : Int × D23 × Unit) : Option (Bool × Unit) :=
 (cond (decide (x4.1 < (((List.length x4.2.1.1) : Nat) : Int)))
 (gd (decide ((0 : Int) ≤ x4.1))
 (Option.bind x4.2.1.1[(Int.toNat x4.1)]? fun y8 =>
 (cond (decide ((((List.length y8.1) : Nat) : Int) > (4 : Int)))
 (er_1 (false, ()))
 (iter (F39_R9
 (fun y17 =>
 (rec ((IntKind.wrap IntKind.i64 (y17.1 + (1 : Int))), y17.2.1, ())))
 (fun y18 =>
 (er_1 (y18.1, ())))) fuel (x4.1, (0 : Int), x4.2.1, ())))))
 (e0_0 (())))
def F39 (a0 : D23) : Option (Bool × Unit) :=
 (Option.bind (F40 (((List.length a0.1) : Nat) : Int) (1 : Int) (3 : Int)) fun y1 =>
 (cond (!y1.1)
 (some (false, ()))
 (iter (F39_R4
 (fun y19 =>
 (some (true, ())))
 (fun y20 =>
 (some (y20.1, ())))) fuel ((0 : Int), a0, ()))))
def C39 : Fun := ⟨[(.ro Y23)], [(.bool, .z)], fun z => F39 z.1⟩
def E39 : Env := ⟨47, tyTab tys, oneTab ones, fnTab [(40, C40), (67, C67)], false, [], [(3, [1], []), (4, [1, 3], []), (5, [1, 3], []), (6, [1, 3], []), (8, [1, 3], []), (9, [1, 3, 4], []), (10, [1, 3, 4], []), (11, [1, 3, 4], []), (13, [], []), (100000, [], []), (100001, [1, 3], []), (100002, [1, 3], []), (100003, [1, 3, 4], []), (99999, [2], [])], none, [], []⟩
def L39 : List (LoopS (Bool × Unit)) := [⟨9, ⟨[(1, (.ptr 8 [])), (3, (.pv (.int .i64))), (4, (.pv (.int .i64)))], [(8, (.data true Y23 .z))]⟩, fun κ => F39_R9 (fun y => κ.exit 2 (SSh.mk' ⟨[(1, (.ptr 8 [])), (3, (.pv (.int .i64)))], [(8, (.data true Y23 .z))]⟩ y)) (fun y => κ.ret (SSh.mk' ⟨[(2, (.pv .bool))], []⟩ y))⟩,
  ⟨4, ⟨[(1, (.ptr 8 [])), (3, (.pv (.int .i64)))], [(8, (.data true Y23 .z))]⟩, fun κ => F39_R4 (fun y => κ.exit 0 (SSh.mk' ⟨[], []⟩ y)) (fun y => κ.ret (SSh.mk' ⟨[(2, (.pv .bool))], []⟩ y))⟩]
theorem L39_9 : RoundEq E39 L39 L39[0] (nthLoop (codeOf Tryz.f39) 1) := fun κ N x => by kernel_rfl
theorem L39_4 : RoundEq E39 L39 L39[1] (nthLoop (codeOf Tryz.f39) 0) := fun κ N x => by kernel_rfl
theorem C39_ok : QuietOk Tryz.prog 39 C39 := tQ E39 L39 [nthLoop (codeOf Tryz.f39) 0, nthLoop (codeOf Tryz.f39) 1] Tryz.func39 ty_ok (.cons C40_ok (.cons C67_ok .nil)) (.cons L39[1] (by kernel_rfl) L39_4 (.cons L39[0] (by kernel_rfl) L39_9 .nil))
def F19_R4 (e0_0 : D27 × Unit → Option (Bool × Unit)) (er_1 : Bool × Unit → Option (Bool × Unit)) (rec : Int × D27 × Unit → Option (Bool × Unit)) (x9 : Int × D27 × Unit) : Option (Bool × Unit) :=
 (cond (decide (x9.1 < (((List.length x9.2.1.2.1) : Nat) : Int)))
 (gd (decide ((0 : Int) ≤ x9.1))
 (Option.bind x9.2.1.2.1[(Int.toNat x9.1)]? fun y12 =>
 (Option.bind (F42 y12.1) fun y13 =>
 (cond (!y13.1)
 (er_1 (false, ()))
 (rec ((IntKind.wrap IntKind.i64 (x9.1 + (1 : Int))), x9.2.1, ()))))))
 (e0_0 (x9.2.1, ())))
def F19_R9 (e2_0 : Unit → Option (Bool × Unit)) (er_1 : Bool × Unit → Option (Bool × Unit)) (rec : Int × D27 × Unit → Option (Bool × Unit)) (x18 : Int × D27 × Unit) : Option (Bool × Unit) :=
 (cond (decide (x18.1 < (((List.length x18.2.1.2.2.2.2.1) : Nat) : Int)))
 (gd (decide ((0 : Int) ≤ x18.1))
 (Option.bind x18.2.1.2.2.2.2.1[(Int.toNat x18.1)]? fun y21 =>
 (Option.bind (F41 y21) fun y22 =>
 (cond (!y22.1)
 (er_1 (false, ()))
 (rec ((IntKind.wrap IntKind.i64 (x18.1 + (1 : Int))), x18.2.1, ()))))))
 (e2_0 (())))
def F19 (a0 : D27) : Option (Bool × Unit) :=
 (let j5 : D27 × Unit → Option (Bool × Unit) := fun (y6 : D27 × Unit) =>
 (iter (F19_R4
 (fun y14 =>
 (iter (F19_R9
 (fun y23 =>
 (some (true, ())))
 (fun y24 =>
 (some (y24.1, ())))) fuel ((0 : Int), y14.1, ())))
 (fun y15 =>
 (some (y15.1, ())))) fuel ((0 : Int), y6.1, ()))
 (Option.bind (F39 a0.1) fun y1 =>
 (cond (!y1.1)
 (some (false, ()))
 (cond (decide ((((List.length a0.2.1) : Nat) : Int) > (2 : Int)))
 (some (false, ()))
 (Option.bind (F40 a0.2.2.1 (0 : Int) (100 : Int)) fun y2 =>
 (cond (!y2.1)
 (some (false, ()))
 (Option.bind (F40 a0.2.2.2.1 (0 : Int) (100 : Int)) fun y3 =>
 (cond (!y3.1)
 (some (false, ()))
 (cond (decide ((((List.length a0.2.2.2.2.1) : Nat) : Int) > (4 : Int)))
 (some (false, ()))
 (cond (!(a0.2.2.2.2.2.1 == []))
 (Option.bind (F41 a0.2.2.2.2.2.1) fun y4 =>
 (cond (!y4.1)
 (some (false, ()))
 (j5 (a0, ()))))
 (j5 (a0, ()))))))))))))
def C19 : Fun := ⟨[(.ro Y27)], [(.bool, .z)], fun z => F19 z.1⟩
def E19 : Env := ⟨73, tyTab tys, oneTab ones, fnTab [(39, C39), (40, C40), (41, C41), (42, C42)], false, [], [(3, [1], []), (4, [1, 3], []), (5, [1, 3], []), (6, [1, 3], []), (8, [1], []), (9, [1, 4], []), (10, [1, 4], []), (11, [1, 4], []), (13, [], []), (100000, [1], []), (100001, [1, 3], []), (100002, [], []), (100003, [1, 4], []), (99999, [2], [])], none, [], []⟩
def L19 : List (LoopS (Bool × Unit)) := [⟨4, ⟨[(1, (.ptr 8 [])), (3, (.pv (.int .i64)))], [(8, (.data true Y27 .z))]⟩, fun κ => F19_R4 (fun y => κ.exit 0 (SSh.mk' ⟨[(1, (.ptr 8 []))], [(8, (.data true Y27 .z))]⟩ y)) (fun y => κ.ret (SSh.mk' ⟨[(2, (.pv .bool))], []⟩ y))⟩,
  ⟨9, ⟨[(1, (.ptr 8 [])), (4, (.pv (.int .i64)))], [(8, (.data true Y27 .z))]⟩, fun κ => F19_R9 (fun y => κ.exit 2 (SSh.mk' ⟨[], []⟩ y)) (fun y => κ.ret (SSh.mk' ⟨[(2, (.pv .bool))], []⟩ y))⟩]
theorem L19_9 : RoundEq E19 L19 L19[1] (nthLoop (codeOf Tryz.f19) 1) := fun κ N x => by kernel_rfl
theorem L19_4 : RoundEq E19 L19 L19[0] (nthLoop (codeOf Tryz.f19) 0) := fun κ N x => by kernel_rfl
theorem C19_ok : QuietOk Tryz.prog 19 C19 := tQ E19 L19 [nthLoop (codeOf Tryz.f19) 0, nthLoop (codeOf Tryz.f19) 1] Tryz.func19 ty_ok (.cons C39_ok (.cons C40_ok (.cons C41_ok (.cons C42_ok .nil)))) (.cons L19[0] (by kernel_rfl) L19_4 (.cons L19[1] (by kernel_rfl) L19_9 .nil))
def F43 (a0 : D52) : Option (Bool × Unit) :=
 (Option.bind (F70 a0) fun y0 =>
 (cond y0.1
 (some ((a0.1 == (5 : Int)), ()))
 (some (false, ()))))
def C43 : Fun := ⟨[(.ro Y52)], [(.bool, .z)], fun z => F43 z.1⟩
def E43 : Env := ⟨10, tyTab tys, oneTab ones, fnTab [(70, C70)], false, [], [(99999, [2], [])], none, [], []⟩
def L43 : List (LoopS (Bool × Unit)) := []
theorem C43_ok : QuietOk Tryz.prog 43 C43 := tQ E43 L43 [] Tryz.func43 ty_ok (.cons C70_ok .nil) .nil
def F71_R3 (e0_0 : D52 × Unit → Option (D52 × Bool × Unit)) (er_1 : Bool × D52 × Unit → Option (D52 × Bool × Unit)) (rec : List UInt8 × List (D112) × Int × D52 × Unit → Option (D52 × Bool × Unit)) (x3 : List UInt8 × List (D112) × Int × D52 × Unit) : Option (D52 × Bool × Unit) :=
 (cond (decide (x3.2.2.1 < (((List.length x3.2.1) : Nat) : Int)))
 (gd (decide ((0 : Int) ≤ x3.2.2.1))
 (Option.bind x3.2.1[(Int.toNat x3.2.2.1)]? fun y6 =>
 (cond (y6.1 == x3.1)
 (gd (decide ((0 : Int) ≤ x3.2.2.1))
 (Option.bind x3.2.1[(Int.toNat x3.2.2.1)]? fun y7 =>
 (er_1 (true, y7.2.1, ()))))
 (rec (x3.1, x3.2.1, (IntKind.wrap IntKind.i64 (x3.2.2.1 + (1 : Int))), x3.2.2.2.1, ())))))
 (e0_0 (x3.2.2.2.1, ())))
def F71 (a0 : D52) (a1 : List UInt8) : Option (D52 × Bool × Unit) :=
 (Option.bind (F74 a0.2.2.1) fun y0 =>
 (iter (F71_R3
 (fun y8 =>
 (some (((0 : Int), ((0 : Int), ([], ()))), (false, ()))))
 (fun y9 =>
 (some (y9.2.1, (y9.1, ()))))) fuel (a1, y0.1, (0 : Int), ((0 : Int), ((0 : Int), ([], ()))), ())))
def C71 : Fun := ⟨[(.ro Y52), (.ro .str)], [(Y52, .z), (.bool, .z)], fun z => F71 z.1 z.2.1⟩
def E71 : Env := ⟨34, tyTab tys, oneTab ones, fnTab [(74, C74)], false, [], [(3, [1, 4, 6, 8], []), (4, [1, 4, 6, 8], []), (5, [1, 4, 6, 8], []), (7, [4], []), (100000, [4], []), (100001, [1, 4, 6, 8], []), (99999, [4, 5], [])], none, [], []⟩
def L71 : List (LoopS (D52 × Bool × Unit)) := [⟨3, ⟨[(1, (.pv .str)), (4, (.ptr 32 [])), (6, (.pv (.slice Y112))), (8, (.pv (.int .i64)))], [(32, (.data true Y52 .z))]⟩, fun κ => F71_R3 (fun y => κ.exit 0 (SSh.mk' ⟨[(4, (.ptr 32 []))], [(32, (.data true Y52 .z))]⟩ y)) (fun y => κ.ret (SSh.mk' ⟨[(4, (.ptr 32 [])), (5, (.pv .bool))], [(32, (.data true Y52 .z))]⟩ y))⟩]
theorem L71_3 : RoundEq E71 L71 L71[0] (nthLoop (codeOf Tryz.f71) 0) := fun κ N x => by kernel_rfl
theorem C71_ok : QuietOk Tryz.prog 71 C71 := tQ E71 L71 [nthLoop (codeOf Tryz.f71) 0] Tryz.func71 ty_ok (.cons C74_ok .nil) (.cons L71[0] (by kernel_rfl) L71_3 .nil)
def F44 (a0 : D52) : Option (Int × Unit) :=
 (Option.bind (F71 a0 [(105 : UInt8), (100 : UInt8)]) fun y0 =>
 (cond (!y0.2.1)
 (some ((-(1 : Int)), ()))
 (cond (y0.1.1 != (2 : Int))
 (some ((-(1 : Int)), ()))
 (Option.bind (F40 y0.1.2.1 (0 : Int) (99 : Int)) fun y2 =>
 (cond (!y2.1)
 (some ((-(1 : Int)), ()))
 (some (y0.1.2.1, ())))))))
def C44 : Fun := ⟨[(.ro Y52)], [((.int .i64), .z)], fun z => F44 z.1⟩
def E44 : Env := ⟨25, tyTab tys, oneTab ones, fnTab [(40, C40), (71, C71)], false, [], [(4, [3], []), (99999, [2], [])], none, [], []⟩
def L44 : List (LoopS (Int × Unit)) := []
theorem C44_ok : QuietOk Tryz.prog 44 C44 := tQ E44 L44 [] Tryz.func44 ty_ok (.cons C40_ok (.cons C71_ok .nil)) .nil
def F20_R2 (e0_0 : List (D52) × Unit → Option (Bool × Unit)) (er_1 : Bool × Unit → Option (Bool × Unit)) (rec : List (D52) × Int × Unit → Option (Bool × Unit)) (x2 : List (D52) × Int × Unit) : Option (Bool × Unit) :=
 (cond (decide (x2.2.1 < (((List.length x2.1) : Nat) : Int)))
 (let j13 : List (D52) × Int × Unit → Option (Bool × Unit) := fun (y14 : List (D52) × Int × Unit) =>
 (rec (y14.1, (IntKind.wrap IntKind.i64 (y14.2.1 + (1 : Int))), ()))
 (gd (decide ((0 : Int) ≤ x2.2.1))
 (Option.bind x2.1[(Int.toNat x2.2.1)]? fun y5 =>
 (Option.bind (F43 y5) fun y6 =>
 (cond (!y6.1)
 (er_1 (false, ()))
 (gd (decide ((0 : Int) ≤ x2.2.1))
 (Option.bind x2.1[(Int.toNat x2.2.1)]? fun y7 =>
 (Option.bind (F44 y7) fun y8 =>
 (cond (decide (y8.1 < (0 : Int)))
 (er_1 (false, ()))
 (cond (decide (x2.2.1 > (0 : Int)))
 (gd (decide ((0 : Int) ≤ (IntKind.wrap IntKind.i64 (x2.2.1 - (1 : Int)))))
 (Option.bind x2.1[(Int.toNat (IntKind.wrap IntKind.i64 (x2.2.1 - (1 : Int))))]? fun y9 =>
 (Option.bind (F44 y9) fun y10 =>
 (gd (decide ((0 : Int) ≤ x2.2.1))
 (Option.bind x2.1[(Int.toNat x2.2.1)]? fun y11 =>
 (Option.bind (F44 y11) fun y12 =>
 (cond (decide (y10.1 ≥ y12.1))
 (er_1 (false, ()))
 (j13 (x2.1, x2.2.1, ())))))))))
 (j13 (x2.1, x2.2.1, ()))))))))))))
 (e0_0 (x2.1, ())))
def F20 (a0 : List (D52)) : Option (Bool × Unit) :=
 (iter (F20_R2
 (fun y15 =>
 (some ((decide ((((List.length y15.1) : Nat) : Int) ≤ (20 : Int))), ())))
 (fun y16 =>
 (some (y16.1, ())))) fuel (a0, (0 : Int), ()))
def C20 : Fun := ⟨[(.ro (.slice Y52))], [(.bool, .z)], fun z => F20 z.1⟩
def E20 : Env := ⟨45, tyTab tys, oneTab ones, fnTab [(43, C43), (44, C44)], false, [], [(2, [0, 3], []), (3, [0, 3], []), (4, [0, 3], []), (6, [0], []), (100000, [0], []), (100001, [0, 3], []), (99999, [2], [])], none, [], []⟩
def L20 : List (LoopS (Bool × Unit)) := [⟨2, ⟨[(0, (.pv (.slice Y52))), (3, (.pv (.int .i64)))], []⟩, fun κ => F20_R2 (fun y => κ.exit 0 (SSh.mk' ⟨[(0, (.pv (.slice Y52)))], []⟩ y)) (fun y => κ.ret (SSh.mk' ⟨[(2, (.pv .bool))], []⟩ y))⟩]
theorem L20_2 : RoundEq E20 L20 L20[0] (nthLoop (codeOf Tryz.f20) 0) := fun κ N x => by kernel_rfl
theorem C20_ok : QuietOk Tryz.prog 20 C20 := tQ E20 L20 [nthLoop (codeOf Tryz.f20) 0] Tryz.func20 ty_ok (.cons C43_ok (.cons C44_ok .nil)) (.cons L20[0] (by kernel_rfl) L20_2 .nil)
abbrev G177 : Type := (D52) → (List (List UInt8)) → Option (List (D52) × Unit)
def H177 (g : G177) : Fun := ⟨[(.ro Y52), (.ro (.slice .str))], [((.slice Y52), .z)], fun z => g z.1 z.2.1⟩
def B177_R17 (g : G177) (e1_0 : List (D52) × Unit → Option (List (D52) × Unit)) (rec : List (List UInt8) × List (D52) × Int × List (D52) × Unit → Option (List (D52) × Unit)) (x13 : List (List UInt8) × List (D52) × Int × List (D52) × Unit) : Option (List (D52) × Unit) :=
 (cond (decide (x13.2.2.1 < (((List.length x13.2.1) : Nat) : Int)))
 (let j19 : List (List UInt8) × List (D52) × Int × List (D52) × Unit → Option (List (D52) × Unit) := fun (y20 : List (List UInt8) × List (D52) × Int × List (D52) × Unit) =>
 (rec (y20.1, y20.2.1, (IntKind.wrap IntKind.i64 (y20.2.2.1 + (1 : Int))), y20.2.2.2.1, ()))
 (gd (decide ((0 : Int) ≤ x13.2.2.1))
 (Option.bind x13.2.1[(Int.toNat x13.2.2.1)]? fun y16 =>
 (cond (y16.1 == (5 : Int))
 (gd (decide ((0 : Int) ≤ x13.2.2.1))
 (Option.bind x13.2.1[(Int.toNat x13.2.2.1)]? fun y17 =>
 (Option.bind (g y17 x13.1) fun y18 =>
 (gd (decide (((List.length x13.2.2.2.1) + (List.length y18.1)) ≤ lim))
 (j19 (x13.1, x13.2.1, x13.2.2.1, (x13.2.2.2.1 ++ y18.1), ()))))))
 (j19 (x13.1, x13.2.1, x13.2.2.1, x13.2.2.2.1, ()))))))
 (e1_0 (x13.2.2.2.1, ())))
def B177 (g : G177) (a0 : D52) (a1 : List (List UInt8)) : Option (List (D52) × Unit) :=
 (cond ((((List.length a1) : Nat) : Int) == (0 : Int))
 (let j3 : List (D52) × Unit → Option (List (D52) × Unit) := fun (y4 : List (D52) × Unit) =>
 (some (y4.1, ()))
 (cond (a0.1 == (4 : Int))
 (Option.bind (F148 a0.2.2.1) fun y2 =>
 (gd (decide (((List.length [a0]) + (List.length y2.1)) ≤ lim))
 (j3 (([a0] ++ y2.1), ()))))
 (j3 ([a0], ()))))
 (cond (a0.1 == (5 : Int))
 (Option.bind a1[(Int.toNat (0 : Int))]? fun y6 =>
 (Option.bind (F71 a0 y6) fun y7 =>
 (cond (!y7.2.1)
 (some ([], ()))
 (gd (decide ((((List.length a1) : Nat) : Int) ≤ (((List.length a1) : Nat) : Int)))
 (gd (decide ((1 : Int) ≤ (((Int.toNat (((List.length a1) : Nat) : Int)) : Nat) : Int)))
 (Option.bind (g y7.1 (List.drop (Int.toNat (1 : Int)) (List.take (Int.toNat (((List.length a1) : Nat) : Int)) a1))) fun y9 =>
 (some (y9.1, ()))))))))
 (cond (a0.1 == (4 : Int))
 (Option.bind (F148 a0.2.2.1) fun y10 =>
 (iter (B177_R17 g
 (fun y21 =>
 (some (y21.1, ())))) fuel (a1, y10.1, (0 : Int), [], ())))
 (some ([], ())))))
def K177 (g : G177) : Fun := ⟨[(.ro Y52), (.ro (.slice .str))], [((.slice Y52), .z)], fun z => B177 g z.1 z.2.1⟩
def E177 (g : G177) : Env := ⟨82, tyTab tys, oneTab ones, fnTab [(71, C71), (148, C148), (177, (H177 g))], false, [], [(6, [5], []), (7, [1, 2], []), (12, [1, 8], []), (17, [1, 10, 11, 13], []), (18, [1, 10, 11, 13], []), (19, [1, 10, 11, 13], []), (21, [10], []), (22, [], []), (100000, [], []), (100001, [10], []), (100002, [1, 10, 11, 13], []), (99999, [4], [])], none, [], []⟩
def L177 (g : G177) : List (LoopS (List (D52) × Unit)) := [⟨17, ⟨[(1, (.pv (.slice .str))), (10, (.ref (.slice Y52) 424 [])), (11, (.pv (.slice Y52))), (13, (.pv (.int .i64)))], [(424, (.data false (.slice Y52) (.own .z)))]⟩, fun κ => B177_R17 g (fun y => κ.exit 1 (SSh.mk' ⟨[(10, (.ref (.slice Y52) 424 []))], [(424, (.data false (.slice Y52) (.own .z)))]⟩ y))⟩]
theorem L177_17 (g : G177) : RoundEq (E177 g) (L177 g) ((L177 g)[0]'(Nat.le_of_ble_eq_true rfl)) (nthLoop (codeOf Tryz.f177) 0) := fun κ N x => by kernel_rfl
theorem K177_ok (g : G177) (hg : QuietOk Tryz.prog 177 (H177 g)) : QuietOk Tryz.prog 177 (K177 g) := tQ (E177 g) (L177 g) [nthLoop (codeOf Tryz.f177) 0] Tryz.func177 ty_ok (.cons C71_ok (.cons C148_ok (.cons hg .nil))) (.cons ((L177 g)[0]'(Nat.le_of_ble_eq_true rfl)) (by kernel_rfl) (L177_17 g) .nil)
def S177 : Nat → G177
  | 0 => fun _ _ => none
  | k + 1 => B177 (S177 k)
def F177 : G177 := S177 fuel
def C177 : Fun := H177 F177
theorem C177_all : ∀ k, QuietOk Tryz.prog 177 (H177 (S177 k))
  | 0 => QuietOk.none Tryz.func177 (by rfl) (by decide) fun _ => rfl
  | k + 1 => K177_ok (S177 k) (C177_all k)
theorem C177_ok : QuietOk Tryz.prog 177 C177 := C177_all fuel
def F149 (a0 : D52) (a1 : List UInt8) : Option (List (D52) × Unit) :=
 (Option.bind (F69 a1 (46 : Int)) fun y0 =>
 (Option.bind (F177 a0 y0.1) fun y1 =>
 (some (y1.1, ()))))
def C149 : Fun := ⟨[(.ro Y52), (.ro .str)], [((.slice Y52), .z)], fun z => F149 z.1 z.2.1⟩
def E149 : Env := ⟨9, tyTab tys, oneTab ones, fnTab [(69, C69), (177, C177)], false, [], [(99999, [4], [])], none, [], []⟩
def L149 : List (LoopS (List (D52) × Unit)) := []
theorem C149_ok : QuietOk Tryz.prog 149 C149 := tQ E149 L149 [] Tryz.func149 ty_ok (.cons C69_ok (.cons C177_ok .nil)) .nil
def F151 (a0 : Bool) : Option (Int × Unit) :=
 (cond a0
 (some ((1 : Int), ()))
 (some ((0 : Int), ())))
def C151 : Fun := ⟨[(.ro .bool)], [((.int .i64), .z)], fun z => F151 z.1⟩
def E151 : Env := ⟨4, tyTab tys, oneTab ones, fnTab [], false, [], [(3, [], []), (99999, [2], [])], none, [], []⟩
def L151 : List (LoopS (Int × Unit)) := []
theorem C151_ok : QuietOk Tryz.prog 151 C151 := tQ E151 L151 [] Tryz.func151 ty_ok .nil .nil
abbrev G110 : Type := (D52) → (D52) → Option (Int × Unit)
def H110 (g : G110) : Fun := ⟨[(.ro Y52), (.ro Y52)], [((.int .i64), .z)], fun z => g z.1 z.2.1⟩
def B110_R13 (g : G110) (e1_0 : List (D52) × List (D52) × Unit → Option (Int × Unit)) (er_1 : Int × Unit → Option (Int × Unit)) (rec : List (D52) × List (D52) × Int × Unit → Option (Int × Unit)) (x8 : List (D52) × List (D52) × Int × Unit) : Option (Int × Unit) :=
 (cond (decide (x8.2.2.1 < (((List.length x8.1) : Nat) : Int)))
 (cond (decide (x8.2.2.1 < (((List.length x8.2.1) : Nat) : Int)))
 (gd (decide ((0 : Int) ≤ x8.2.2.1))
 (Option.bind x8.1[(Int.toNat x8.2.2.1)]? fun y11 =>
 (gd (decide ((0 : Int) ≤ x8.2.2.1))
 (Option.bind x8.2.1[(Int.toNat x8.2.2.1)]? fun y12 =>
 (Option.bind (g y11 y12) fun y13 =>
 (cond (y13.1 != (0 : Int))
 (er_1 (y13.1, ()))
 (rec (x8.1, x8.2.1, (IntKind.wrap IntKind.i64 (x8.2.2.1 + (1 : Int))), ()))))))))
 (e1_0 (x8.1, x8.2.1, ())))
 (e1_0 (x8.1, x8.2.1, ())))
def B110_R22 (g : G110) (e3_0 : List (D112) × List (D112) × Unit → Option (Int × Unit)) (er_1 : Int × Unit → Option (Int × Unit)) (rec : List (D112) × List (D112) × Int × Unit → Option (Int × Unit)) (x21 : List (D112) × List (D112) × Int × Unit) : Option (Int × Unit) :=
 (cond (decide (x21.2.2.1 < (((List.length x21.1) : Nat) : Int)))
 (cond (decide (x21.2.2.1 < (((List.length x21.2.1) : Nat) : Int)))
 (gd (decide ((0 : Int) ≤ x21.2.2.1))
 (Option.bind x21.1[(Int.toNat x21.2.2.1)]? fun y25 =>
 (gd (decide ((0 : Int) ≤ x21.2.2.1))
 (Option.bind x21.2.1[(Int.toNat x21.2.2.1)]? fun y26 =>
 (cond (!(y25.1 == y26.1))
 (gd (decide ((0 : Int) ≤ x21.2.2.1))
 (Option.bind x21.1[(Int.toNat x21.2.2.1)]? fun y27 =>
 (gd (decide ((0 : Int) ≤ x21.2.2.1))
 (Option.bind x21.2.1[(Int.toNat x21.2.2.1)]? fun y28 =>
 (Option.bind (F151 (!((Op.bytesLess y27.1 y28.1) || (y27.1 == y28.1)))) fun y29 =>
 (er_1 ((IntKind.wrap IntKind.i64 ((IntKind.wrap IntKind.i64 ((2 : Int) * y29.1)) - (1 : Int))), ())))))))
 (gd (decide ((0 : Int) ≤ x21.2.2.1))
 (Option.bind x21.1[(Int.toNat x21.2.2.1)]? fun y30 =>
 (gd (decide ((0 : Int) ≤ x21.2.2.1))
 (Option.bind x21.2.1[(Int.toNat x21.2.2.1)]? fun y31 =>
 (Option.bind (g y30.2.1 y31.2.1) fun y32 =>
 (cond (y32.1 != (0 : Int))
 (er_1 (y32.1, ()))
 (rec (x21.1, x21.2.1, (IntKind.wrap IntKind.i64 (x21.2.2.1 + (1 : Int))), ())))))))))))))
 (e3_0 (x21.1, x21.2.1, ())))
 (e3_0 (x21.1, x21.2.1, ())))
def B110 (g : G110) (a0 : D52) (a1 : D52) : Option (Int × Unit) :=
 (cond (a0.1 != a1.1)
 (Option.bind (F151 (decide (a0.1 > a1.1))) fun y1 =>
 (some ((IntKind.wrap IntKind.i64 ((IntKind.wrap IntKind.i64 ((2 : Int) * y1.1)) - (1 : Int))), ())))
 (cond (a0.2.1 != a1.2.1)
 (Option.bind (F151 (decide (a0.2.1 > a1.2.1))) fun y2 =>
 (some ((IntKind.wrap IntKind.i64 ((IntKind.wrap IntKind.i64 ((2 : Int) * y2.1)) - (1 : Int))), ())))
 (cond (a0.2.2.1 == a1.2.2.1)
 (some ((0 : Int), ()))
 (cond (a0.1 == (3 : Int))
 (Option.bind (F151 (!((Op.bytesLess a0.2.2.1 a1.2.2.1) || (a0.2.2.1 == a1.2.2.1)))) fun y3 =>
 (some ((IntKind.wrap IntKind.i64 ((IntKind.wrap IntKind.i64 ((2 : Int) * y3.1)) - (1 : Int))), ())))
 (cond (a0.1 == (4 : Int))
 (Option.bind (F148 a0.2.2.1) fun y4 =>
 (Option.bind (F148 a1.2.2.1) fun y5 =>
 (iter (B110_R13 g
 (fun y14 =>
 (Option.bind (F151 (decide ((((List.length y14.1) : Nat) : Int) > (((List.length y14.2.1) : Nat) : Int)))) fun y16 =>
 (some ((IntKind.wrap IntKind.i64 ((IntKind.wrap IntKind.i64 ((2 : Int) * y16.1)) - (1 : Int))), ()))))
 (fun y15 =>
 (some (y15.1, ())))) fuel (y4.1, y5.1, (0 : Int), ()))))
 (Option.bind (F74 a0.2.2.1) fun y17 =>
 (Option.bind (F74 a1.2.2.1) fun y18 =>
 (iter (B110_R22 g
 (fun y33 =>
 (Option.bind (F151 (decide ((((List.length y33.1) : Nat) : Int) > (((List.length y33.2.1) : Nat) : Int)))) fun y35 =>
 (some ((IntKind.wrap IntKind.i64 ((IntKind.wrap IntKind.i64 ((2 : Int) * y35.1)) - (1 : Int))), ()))))
 (fun y34 =>
 (some (y34.1, ())))) fuel (y17.1, y18.1, (0 : Int), ())))))))))
def K110 (g : G110) : Fun := ⟨[(.ro Y52), (.ro Y52)], [((.int .i64), .z)], fun z => B110 g z.1 z.2.1⟩
def E110 (g : G110) : Env := ⟨182, tyTab tys, oneTab ones, fnTab [(74, C74), (110, (H110 g)), (148, C148), (151, C151)], false, [], [(13, [5, 7, 9], []), (14, [5, 7, 9], []), (15, [5, 7, 9], []), (18, [5, 7], []), (19, [2, 3], []), (22, [11, 13, 15], []), (23, [11, 13, 15], []), (24, [11, 13, 15], []), (26, [11, 13, 15], []), (29, [11, 13], []), (100000, [2, 3], []), (100001, [5, 7], []), (100002, [5, 7, 9], []), (100003, [11, 13], []), (100004, [11, 13, 15], []), (99999, [4], [])], none, [], []⟩
def L110 (g : G110) : List (LoopS (Int × Unit)) := [⟨13, ⟨[(5, (.pv (.slice Y52))), (7, (.pv (.slice Y52))), (9, (.pv (.int .i64)))], []⟩, fun κ => B110_R13 g (fun y => κ.exit 1 (SSh.mk' ⟨[(5, (.pv (.slice Y52))), (7, (.pv (.slice Y52)))], []⟩ y)) (fun y => κ.ret (SSh.mk' ⟨[(4, (.pv (.int .i64)))], []⟩ y))⟩,
  ⟨22, ⟨[(11, (.pv (.slice Y112))), (13, (.pv (.slice Y112))), (15, (.pv (.int .i64)))], []⟩, fun κ => B110_R22 g (fun y => κ.exit 3 (SSh.mk' ⟨[(11, (.pv (.slice Y112))), (13, (.pv (.slice Y112)))], []⟩ y)) (fun y => κ.ret (SSh.mk' ⟨[(4, (.pv (.int .i64)))], []⟩ y))⟩]
theorem L110_22 (g : G110) : RoundEq (E110 g) (L110 g) ((L110 g)[1]'(Nat.le_of_ble_eq_true rfl)) (nthLoop (codeOf Tryz.f110) 1) := fun κ N x => by kernel_rfl
theorem L110_13 (g : G110) : RoundEq (E110 g) (L110 g) ((L110 g)[0]'(Nat.le_of_ble_eq_true rfl)) (nthLoop (codeOf Tryz.f110) 0) := fun κ N x => by kernel_rfl
theorem K110_ok (g : G110) (hg : QuietOk Tryz.prog 110 (H110 g)) : QuietOk Tryz.prog 110 (K110 g) := tQ (E110 g) (L110 g) [nthLoop (codeOf Tryz.f110) 0, nthLoop (codeOf Tryz.f110) 1] Tryz.func110 ty_ok (.cons C74_ok (.cons hg (.cons C148_ok (.cons C151_ok .nil)))) (.cons ((L110 g)[0]'(Nat.le_of_ble_eq_true rfl)) (by kernel_rfl) (L110_13 g) (.cons ((L110 g)[1]'(Nat.le_of_ble_eq_true rfl)) (by kernel_rfl) (L110_22 g) .nil))
def S110 : Nat → G110
  | 0 => fun _ _ => none
  | k + 1 => B110 (S110 k)
def F110 : G110 := S110 fuel
def C110 : Fun := H110 F110
theorem C110_all : ∀ k, QuietOk Tryz.prog 110 (H110 (S110 k))
  | 0 => QuietOk.none Tryz.func110 (by rfl) (by decide) fun _ => rfl
  | k + 1 => K110_ok (S110 k) (C110_all k)
theorem C110_ok : QuietOk Tryz.prog 110 C110 := C110_all fuel
def F150_R18 (e1_0 : Unit → Option (Bool × Unit)) (er_1 : Bool × Unit → Option (Bool × Unit)) (rec : List (D52) × Int × D52 × Unit → Option (Bool × Unit)) (x6 : List (D52) × Int × D52 × Unit) : Option (Bool × Unit) :=
 (cond (decide (x6.2.1 < (((List.length x6.1) : Nat) : Int)))
 (gd (decide ((0 : Int) ≤ x6.2.1))
 (Option.bind x6.1[(Int.toNat x6.2.1)]? fun y9 =>
 (cond ((decide (y9.1 = x6.2.2.1.1)) && ((decide (y9.2.1 = x6.2.2.1.2.1)) && ((y9.2.2.1 == x6.2.2.1.2.2.1) && true)))
 (er_1 (true, ()))
 (rec (x6.1, (IntKind.wrap IntKind.i64 (x6.2.1 + (1 : Int))), x6.2.2.1, ())))))
 (e1_0 (())))
def F150 (a0 : D102) (a1 : D52) : Option (Bool × Unit) :=
 (Option.bind (F110 a1 a0.2.2.1) fun y0 =>
 (let j18 : Unit → Option (Bool × Unit) := fun (y19 : Unit) =>
 (some (true, ()))
 (cond (a0.1 == (1 : Int))
 (cond (a0.1 == (1 : Int))
 (some (((decide (a1.1 = a0.2.2.1.1)) && ((decide (a1.2.1 = a0.2.2.1.2.1)) && ((a1.2.2.1 == a0.2.2.1.2.2.1) && true))), ()))
 (cond (a0.1 == (3 : Int))
 (cond (a1.1 == a0.2.2.1.1)
 (some ((decide (y0.1 < (0 : Int))), ()))
 (some (false, ())))
 (cond (a0.1 == (4 : Int))
 (cond (a1.1 == a0.2.2.1.1)
 (some ((decide (y0.1 ≤ (0 : Int))), ()))
 (some (false, ())))
 (cond (a0.1 == (5 : Int))
 (cond (a1.1 == a0.2.2.1.1)
 (some ((decide (y0.1 > (0 : Int))), ()))
 (some (false, ())))
 (cond (a0.1 == (6 : Int))
 (cond (a1.1 == a0.2.2.1.1)
 (some ((decide (y0.1 ≥ (0 : Int))), ()))
 (some (false, ())))
 (cond (a0.1 == (7 : Int))
 (Option.bind (F148 a0.2.2.1.2.2.1) fun y3 =>
 (iter (F150_R18
 (fun y10 =>
 (some (false, ())))
 (fun y11 =>
 (some (y11.1, ())))) fuel (y3.1, (0 : Int), a1, ())))
 (cond (a0.1 == (9 : Int))
 (some ((a1.1 == a0.2.2.1.2.1), ()))
 (cond (a0.1 == (10 : Int))
 (Option.bind (F148 a1.2.2.1) fun y12 =>
 (cond (a1.1 == (4 : Int))
 (some (((((List.length y12.1) : Nat) : Int) == a0.2.2.1.2.1), ()))
 (some (false, ()))))
 (j18 (()))))))))))
 (cond (a0.1 == (2 : Int))
 (some (((decide (a1.1 = a0.2.2.1.1)) && ((decide (a1.2.1 = a0.2.2.1.2.1)) && ((a1.2.2.1 == a0.2.2.1.2.2.1) && true))), ()))
 (cond (a0.1 == (3 : Int))
 (cond (a1.1 == a0.2.2.1.1)
 (some ((decide (y0.1 < (0 : Int))), ()))
 (some (false, ())))
 (cond (a0.1 == (4 : Int))
 (cond (a1.1 == a0.2.2.1.1)
 (some ((decide (y0.1 ≤ (0 : Int))), ()))
 (some (false, ())))
 (cond (a0.1 == (5 : Int))
 (cond (a1.1 == a0.2.2.1.1)
 (some ((decide (y0.1 > (0 : Int))), ()))
 (some (false, ())))
 (cond (a0.1 == (6 : Int))
 (cond (a1.1 == a0.2.2.1.1)
 (some ((decide (y0.1 ≥ (0 : Int))), ()))
 (some (false, ())))
 (cond (a0.1 == (7 : Int))
 (Option.bind (F148 a0.2.2.1.2.2.1) fun y13 =>
 (iter (F150_R18
 (fun y15 =>
 (some (false, ())))
 (fun y16 =>
 (some (y16.1, ())))) fuel (y13.1, (0 : Int), a1, ())))
 (cond (a0.1 == (9 : Int))
 (some ((a1.1 == a0.2.2.1.2.1), ()))
 (cond (a0.1 == (10 : Int))
 (Option.bind (F148 a1.2.2.1) fun y17 =>
 (cond (a1.1 == (4 : Int))
 (some (((((List.length y17.1) : Nat) : Int) == a0.2.2.1.2.1), ()))
 (some (false, ()))))
 (j18 (())))))))))))))
def C150 : Fun := ⟨[(.ro Y102), (.ro Y52)], [(.bool, .z)], fun z => F150 z.1 z.2.1⟩
def E150 : Env := ⟨107, tyTab tys, oneTab ones, fnTab [(110, C110), (148, C148)], false, [], [(18, [3, 7, 9], []), (19, [3, 7, 9], []), (20, [3, 7, 9], []), (22, [], []), (28, [], []), (100000, [], []), (100001, [], []), (100002, [3, 7, 9], []), (99999, [4], [])], none, [], []⟩
def L150 : List (LoopS (Bool × Unit)) := [⟨18, ⟨[(3, (.ptr 24 [])), (7, (.pv (.slice Y52))), (9, (.pv (.int .i64)))], [(24, (.data true Y52 .z))]⟩, fun κ => F150_R18 (fun y => κ.exit 1 (SSh.mk' ⟨[], []⟩ y)) (fun y => κ.ret (SSh.mk' ⟨[(4, (.pv .bool))], []⟩ y))⟩]
theorem L150_18 : RoundEq E150 L150 L150[0] (nthLoop (codeOf Tryz.f150) 0) := fun κ N x => by kernel_rfl
theorem C150_ok : QuietOk Tryz.prog 150 C150 := tQ E150 L150 [nthLoop (codeOf Tryz.f150) 0] Tryz.func150 ty_ok (.cons C110_ok (.cons C148_ok .nil)) (.cons L150[0] (by kernel_rfl) L150_18 .nil)
def F109_R8 (e0_0 : Bool × D102 × Unit → Option (Bool × Unit)) (rec : List (D52) × Bool × Int × D102 × Unit → Option (Bool × Unit)) (x7 : List (D52) × Bool × Int × D102 × Unit) : Option (Bool × Unit) :=
 (cond (decide (x7.2.2.1 < (((List.length x7.1) : Nat) : Int)))
 (cond x7.2.1
 (rec (x7.1, true, (IntKind.wrap IntKind.i64 (x7.2.2.1 + (1 : Int))), x7.2.2.2.1, ()))
 (gd (decide ((0 : Int) ≤ x7.2.2.1))
 (Option.bind x7.1[(Int.toNat x7.2.2.1)]? fun y9 =>
 (Option.bind (F150 x7.2.2.2.1 y9) fun y10 =>
 (rec (x7.1, y10.1, (IntKind.wrap IntKind.i64 (x7.2.2.1 + (1 : Int))), x7.2.2.2.1, ()))))))
 (e0_0 (x7.2.1, x7.2.2.2.1, ())))
def F109 (a0 : D102) (a1 : D52) : Option (Bool × Unit) :=
 (Option.bind (F149 a1 a0.2.1) fun y0 =>
 (cond (a0.1 == (8 : Int))
 (some (((decide ((((List.length y0.1) : Nat) : Int) > (0 : Int))) == (a0.2.2.1.2.1 == (1 : Int))), ()))
 (let j3 : List (D52) × D102 × Unit → Option (Bool × Unit) := fun (y4 : List (D52) × D102 × Unit) =>
 (iter (F109_R8
 (fun y11 =>
 (some ((!(y11.1 == (y11.2.1.1 == (2 : Int)))), ())))) fuel (y4.1, false, (0 : Int), y4.2.1, ()))
 (cond ((((List.length y0.1) : Nat) : Int) == (0 : Int))
 (cond (a0.1 != (9 : Int))
 (j3 ([((0 : Int), ((0 : Int), ([], ())))], a0, ()))
 (j3 (y0.1, a0, ())))
 (j3 (y0.1, a0, ()))))))
def C109 : Fun := ⟨[(.ro Y102), (.ro Y52)], [(.bool, .z)], fun z => F109 z.1 z.2.1⟩
def E109 : Env := ⟨53, tyTab tys, oneTab ones, fnTab [(149, C149), (150, C150)], false, [256], [(4, [2, 5], []), (6, [2, 5], []), (8, [2, 5, 6, 7], []), (10, [2, 5, 6, 7], []), (11, [2, 6], []), (100000, [2, 6], []), (100001, [2, 5, 6, 7], []), (99999, [4], [])], none, [], []⟩
def L109 : List (LoopS (Bool × Unit)) := [⟨8, ⟨[(2, (.ptr 16 [])), (5, (.pv (.slice Y52))), (6, (.pv .bool)), (7, (.pv (.int .i64)))], [(16, (.data true Y102 .z))]⟩, fun κ => F109_R8 (fun y => κ.exit 0 (SSh.mk' ⟨[(2, (.ptr 16 [])), (6, (.pv .bool))], [(16, (.data true Y102 .z))]⟩ y))⟩]
theorem L109_8 : RoundEq E109 L109 L109[0] (nthLoop (codeOf Tryz.f109) 0) := fun κ N x => by kernel_rfl
theorem C109_ok : QuietOk Tryz.prog 109 C109 := tQ E109 L109 [nthLoop (codeOf Tryz.f109) 0] Tryz.func109 ty_ok (.cons C149_ok (.cons C150_ok .nil)) (.cons L109[0] (by kernel_rfl) L109_8 .nil)
def F72_R2 (e0_0 : Unit → Option (Bool × Unit)) (er_1 : Bool × Unit → Option (Bool × Unit)) (rec : Int × D96 × D52 × Unit → Option (Bool × Unit)) (x2 : Int × D96 × D52 × Unit) : Option (Bool × Unit) :=
 (cond (decide (x2.1 < (((List.length x2.2.1.1) : Nat) : Int)))
 (gd (decide ((0 : Int) ≤ x2.1))
 (Option.bind x2.2.1.1[(Int.toNat x2.1)]? fun y5 =>
 (Option.bind (F109 y5 x2.2.2.1) fun y6 =>
 (cond (!y6.1)
 (er_1 (false, ()))
 (rec ((IntKind.wrap IntKind.i64 (x2.1 + (1 : Int))), x2.2.1, x2.2.2.1, ()))))))
 (e0_0 (())))
def F72 (a0 : D96) (a1 : D52) : Option (Bool × Unit) :=
 (iter (F72_R2
 (fun y7 =>
 (some (true, ())))
 (fun y8 =>
 (some (y8.1, ())))) fuel ((0 : Int), a0, a1, ()))
def C72 : Fun := ⟨[(.ro Y96), (.ro Y52)], [(.bool, .z)], fun z => F72 z.1 z.2.1⟩
def E72 : Env := ⟨21, tyTab tys, oneTab ones, fnTab [(109, C109)], false, [], [(2, [2, 3, 5], []), (3, [2, 3, 5], []), (4, [2, 3, 5], []), (6, [], []), (100000, [], []), (100001, [2, 3, 5], []), (99999, [4], [])], none, [], []⟩
def L72 : List (LoopS (Bool × Unit)) := [⟨2, ⟨[(2, (.ptr 16 [])), (3, (.ptr 24 [])), (5, (.pv (.int .i64)))], [(16, (.data true Y96 .z)), (24, (.data true Y52 .z))]⟩, fun κ => F72_R2 (fun y => κ.exit 0 (SSh.mk' ⟨[], []⟩ y)) (fun y => κ.ret (SSh.mk' ⟨[(4, (.pv .bool))], []⟩ y))⟩]
theorem L72_2 : RoundEq E72 L72 L72[0] (nthLoop (codeOf Tryz.f72) 0) := fun κ N x => by kernel_rfl
theorem C72_ok : QuietOk Tryz.prog 72 C72 := tQ E72 L72 [nthLoop (codeOf Tryz.f72) 0] Tryz.func72 ty_ok (.cons C109_ok .nil) (.cons L72[0] (by kernel_rfl) L72_2 .nil)
def F45_R2 (e0_0 : Unit → Option (Bool × Unit)) (er_1 : Bool × Unit → Option (Bool × Unit)) (rec : Int × D23 × D52 × Unit → Option (Bool × Unit)) (x2 : Int × D23 × D52 × Unit) : Option (Bool × Unit) :=
 (cond (decide (x2.1 < (((List.length x2.2.1.1) : Nat) : Int)))
 (gd (decide ((0 : Int) ≤ x2.1))
 (Option.bind x2.2.1.1[(Int.toNat x2.1)]? fun y5 =>
 (Option.bind (F72 y5 x2.2.2.1) fun y6 =>
 (cond y6.1
 (er_1 (true, ()))
 (rec ((IntKind.wrap IntKind.i64 (x2.1 + (1 : Int))), x2.2.1, x2.2.2.1, ()))))))
 (e0_0 (())))
def F45 (a0 : D23) (a1 : D52) : Option (Bool × Unit) :=
 (iter (F45_R2
 (fun y7 =>
 (some (false, ())))
 (fun y8 =>
 (some (y8.1, ())))) fuel ((0 : Int), a0, a1, ()))
def C45 : Fun := ⟨[(.ro Y23), (.ro Y52)], [(.bool, .z)], fun z => F45 z.1 z.2.1⟩
def E45 : Env := ⟨20, tyTab tys, oneTab ones, fnTab [(72, C72)], false, [], [(2, [2, 3, 5], []), (3, [2, 3, 5], []), (4, [2, 3, 5], []), (6, [], []), (100000, [], []), (100001, [2, 3, 5], []), (99999, [4], [])], none, [], []⟩
def L45 : List (LoopS (Bool × Unit)) := [⟨2, ⟨[(2, (.ptr 16 [])), (3, (.ptr 24 [])), (5, (.pv (.int .i64)))], [(16, (.data true Y23 .z)), (24, (.data true Y52 .z))]⟩, fun κ => F45_R2 (fun y => κ.exit 0 (SSh.mk' ⟨[], []⟩ y)) (fun y => κ.ret (SSh.mk' ⟨[(4, (.pv .bool))], []⟩ y))⟩]
theorem L45_2 : RoundEq E45 L45 L45[0] (nthLoop (codeOf Tryz.f45) 0) := fun κ N x => by kernel_rfl
theorem C45_ok : QuietOk Tryz.prog 45 C45 := tQ E45 L45 [nthLoop (codeOf Tryz.f45) 0] Tryz.func45 ty_ok (.cons C72_ok .nil) (.cons L45[0] (by kernel_rfl) L45_2 .nil)
end
end Go.V
