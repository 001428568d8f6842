/- What functions of the program compute, printed by a program of ours. No condition. -/
import Derived.Test.YtmegollghdmpfaaGreatDoorWF1
namespace Go.V
open Go.Proofs
noncomputable section
set_option maxRecDepth 100000
set_option linter.unusedVariables false
def F90_R2 (e0_0 : Unit → Option (Int × Unit)) (er_1 : Int × Unit → Option (Int × Unit)) (rec : List (D52) × (D52 → Option (Bool)) × Int × Int × Unit → Option (Int × Unit)) (x2 : List (D52) × (D52 → Option (Bool)) × Int × Int × Unit) : Option (Int × Unit) :=
 (cond (decide (x2.2.2.2.1 < x2.2.2.1))
 (gd (decide ((0 : Int) ≤ x2.2.2.2.1))
 (Option.bind x2.1[(Int.toNat x2.2.2.2.1)]? fun y5 =>
 (Option.bind (x2.2.1 y5) fun y6 =>
 (cond y6
 (er_1 (x2.2.2.2.1, ()))
 (rec (x2.1, x2.2.1, x2.2.2.1, (IntKind.wrap IntKind.i64 (x2.2.2.2.1 + (1 : Int))), ()))))))
 (e0_0 (())))
def F90 (a0 : List (D52)) (a1 : (D52 → Option (Bool))) : Option (Int × Unit) :=
 (iter (F90_R2
 (fun y7 =>
 (some ((-(1 : Int)), ())))
 (fun y8 =>
 (some (y8.1, ())))) fuel (a0, a1, (((List.length a0) : Nat) : Int), (0 : Int), ()))
def C90 : Fun := ⟨[(.ro (.slice Y52)), (.fn Y52 .bool)], [((.int .i64), .z)], fun z => F90 z.1 z.2.1⟩
def E90 : Env := ⟨19, tyTab tys, oneTab ones, fnTab [], false, [], [(2, [0, 1, 7, 8], []), (3, [0, 1, 7, 8], []), (6, [0, 1, 7, 8], []), (7, [], []), (100000, [], []), (100001, [0, 1, 7, 8], []), (99999, [4], [])], none, [], []⟩
def L90 : List (LoopS (Int × Unit)) := [⟨2, ⟨[(0, (.pv (.slice Y52))), (1, (.fnA Y52 .bool)), (7, (.pv (.int .i64))), (8, (.pv (.int .i64)))], []⟩, fun κ => F90_R2 (fun y => κ.exit 0 (SSh.mk' ⟨[], []⟩ y)) (fun y => κ.ret (SSh.mk' ⟨[(4, (.pv (.int .i64)))], []⟩ y))⟩]
theorem L90_2 : RoundEq E90 L90 L90[0] (nthLoop (codeOf Tryz.f90) 0) := fun κ N x => by kernel_rfl
theorem C90_ok : QuietOk Tryz.prog 90 C90 := tQ E90 L90 [nthLoop (codeOf Tryz.f90) 0] Tryz.func90 ty_ok .nil (.cons L90[0] (by kernel_rfl) L90_2 .nil)
def F126 (a0 : List (D52)) (a1 : (D52 → Option (Bool))) : Option (Bool × Unit) :=
 (Option.bind (F90 a0 a1) fun y0 =>
 (some ((decide (y0.1 ≥ (0 : Int))), ())))
def C126 : Fun := ⟨[(.ro (.slice Y52)), (.fn Y52 .bool)], [(.bool, .z)], fun z => F126 z.1 z.2.1⟩
def E126 : Env := ⟨9, tyTab tys, oneTab ones, fnTab [(90, C90)], false, [], [(99999, [4], [])], none, [], []⟩
def L126 : List (LoopS (Bool × Unit)) := []
theorem C126_ok : QuietOk Tryz.prog 126 C126 := tQ E126 L126 [] Tryz.func126 ty_ok (.cons C90_ok .nil) .nil
def F179 (a0 : Int) : Option (Bool × Unit) :=
 (Option.bind (F52 a0 (-(1000000000000 : Int)) (1000000000000 : Int)) fun y0 =>
 (some (y0.1, ())))
def C179 : Fun := ⟨[(.ro (.int .i64))], [(.bool, .z)], fun z => F179 z.1⟩
def E179 : Env := ⟨5, tyTab tys, oneTab ones, fnTab [(52, C52)], false, [], [(99999, [2], [])], none, [], []⟩
def L179 : List (LoopS (Bool × Unit)) := []
theorem C179_ok : QuietOk Tryz.prog 179 C179 := tQ E179 L179 [] Tryz.func179 ty_ok (.cons C52_ok .nil) .nil
def F138 (a0 : D72) (a1 : Int) : Option (List UInt8 × D72 × Unit) :=
 (cond (decide (a1 > (((List.length a0.1) : Nat) : Int)))
 (Option.bind (F173 [(0 : UInt8)] a1) fun y1 =>
 (some (y1.1, ((a0.1, (true, a0.2.2)), ()))))
 (gd (decide ((0 : Int) ≤ a1))
 (gd (decide (a1 ≤ (((List.length a0.1) : Nat) : Int)))
 (gd (decide ((((List.length a0.1) : Nat) : Int) ≤ (((List.length a0.1) : Nat) : Int)))
 (gd (decide ((0 : Int) ≤ a1))
 (gd (decide (a1 ≤ (((Int.toNat (((List.length a0.1) : Nat) : Int)) : Nat) : Int)))
 (some ((List.drop (Int.toNat (0 : Int)) (List.take (Int.toNat a1) a0.1)), (((List.drop (Int.toNat a1) (List.take (Int.toNat (((List.length a0.1) : Nat) : Int)) a0.1)), a0.2), ())))))))))
def C138 : Fun := ⟨[(.io Y72 .z), (.ro (.int .i64))], [(.str, .z)], fun z => F138 z.1 z.2.1⟩
def E138 : Env := ⟨34, tyTab tys, oneTab ones, fnTab [(173, C173)], false, [], [(4, [0, 1], [4]), (99999, [4], [4])], none, [], []⟩
def L138 : List (LoopS (List UInt8 × D72 × Unit)) := []
theorem C138_ok : IoOk Tryz.prog 138 C138 := tI E138 L138 [] Tryz.func138 ty_ok (.cons C173_ok .nil) (fun p => .nil)
def F174_R3 (e0_0 : Int × Unit → Option (Int × Unit)) (rec : Int × List (Int) × Int × Int × Unit → Option (Int × Unit)) (x2 : Int × List (Int) × Int × Int × Unit) : Option (Int × Unit) :=
 (cond (decide (x2.2.2.2.1 < x2.2.2.1))
 (gd (decide ((0 : Int) ≤ x2.2.2.2.1))
 (Option.bind x2.2.1[(Int.toNat x2.2.2.2.1)]? fun y4 =>
 (rec ((IntKind.wrap IntKind.i64 (((BitVec.toNat (HOr.hOr (BitVec.ofInt (IntKind.bits IntKind.i64) (IntKind.wrap IntKind.i64 (x2.1 * ((2 : Int) ^ (Min.min (Int.toNat (8 : Int)) (IntKind.bits IntKind.i64)))))) (BitVec.ofInt (IntKind.bits IntKind.i64) (IntKind.wrap IntKind.i64 y4)))) : Nat) : Int)), x2.2.1, x2.2.2.1, (IntKind.wrap IntKind.i64 (x2.2.2.2.1 + (1 : Int))), ()))))
 (e0_0 (x2.1, ())))
def F174 (a0 : List (Int)) : Option (Int × Unit) :=
 (iter (F174_R3
 (fun y5 =>
 (some (y5.1, ())))) fuel ((0 : Int), a0, (((List.length a0) : Nat) : Int), (0 : Int), ()))
def C174 : Fun := ⟨[(.ro (.slice (.int .u8)))], [((.int .i64), .z)], fun z => F174 z.1⟩
def E174 : Env := ⟨19, tyTab tys, oneTab ones, fnTab [], false, [], [(3, [3, 6, 7, 8], []), (4, [3, 6, 7, 8], []), (7, [3], []), (100000, [3], []), (100001, [3, 6, 7, 8], []), (99999, [2], [])], none, [], []⟩
def L174 : List (LoopS (Int × Unit)) := [⟨3, ⟨[(3, (.pv (.int .i64))), (6, (.pv (.slice (.int .u8)))), (7, (.pv (.int .i64))), (8, (.pv (.int .i64)))], []⟩, fun κ => F174_R3 (fun y => κ.exit 0 (SSh.mk' ⟨[(3, (.pv (.int .i64)))], []⟩ y))⟩]
theorem L174_3 : RoundEq E174 L174 L174[0] (nthLoop (codeOf Tryz.f174) 0) := fun κ N x => by kernel_rfl
theorem C174_ok : QuietOk Tryz.prog 174 C174 := tQ E174 L174 [nthLoop (codeOf Tryz.f174) 0] Tryz.func174 ty_ok .nil (.cons L174[0] (by kernel_rfl) L174_3 .nil)
def F139 (a0 : D72) (a1 : Int) : Option (Int × D72 × Unit) :=
 (Option.bind (F138 a0 a1) fun y0 =>
 (Option.bind (F174 (List.map (fun (v4 : UInt8) => (((UInt8.toNat v4) : Nat) : Int)) y0.1)) fun y1 =>
 (some (y1.1, (y0.2.1, ())))))
def C139 : Fun := ⟨[(.io Y72 .z), (.ro (.int .i64))], [((.int .i64), .z)], fun z => F139 z.1 z.2.1⟩
def E139 : Env := ⟨10, tyTab tys, oneTab ones, fnTab [(138, C138), (174, C174)], false, [], [(99999, [4], [4])], none, [], []⟩
def L139 : List (LoopS (Int × D72 × Unit)) := []
theorem C139_ok : IoOk Tryz.prog 139 C139 := tI E139 L139 [] Tryz.func139 ty_ok (.consIo C138_ok (.cons C174_ok .nil)) (fun p => .nil)
def F140 (a0 : D72) : Option (D52 × D72 × Unit) :=
 (Option.bind (F139 a0 (1 : Int)) fun y0 =>
 (let j11 : D72 × D52 × D52 × Unit → Option (D52 × D72 × Unit) := fun (y12 : D72 × D52 × D52 × Unit) =>
 (some (y12.2.2.1, (y12.1, ())))
 (cond (y0.1 == (1 : Int))
 (Option.bind (F139 y0.2.1 (1 : Int)) fun y2 =>
 (j11 (y2.2.1, ((0 : Int), ((0 : Int), ([], ()))), (y0.1, (y2.1, ([], ()))), ())))
 (cond (y0.1 == (2 : Int))
 (Option.bind (F139 y0.2.1 (8 : Int)) fun y3 =>
 (j11 (y3.2.1, ((0 : Int), ((0 : Int), ([], ()))), (y0.1, ((IntKind.wrap IntKind.i64 (y3.1 - (4611686018427387904 : Int))), ([], ()))), ())))
 (cond (y0.1 == (3 : Int))
 (cond (y0.1 == (3 : Int))
 (Option.bind (F139 y0.2.1 (2 : Int)) fun y5 =>
 (Option.bind (F138 y5.2.1 y5.1) fun y6 =>
 (j11 (y6.2.1, ((0 : Int), ((0 : Int), ([], ()))), (y0.1, ((0 : Int), (y6.1, ()))), ()))))
 (j11 (y0.2.1, ((0 : Int), ((0 : Int), ([], ()))), (y0.1, ((0 : Int), ([], ()))), ())))
 (cond (y0.1 == (4 : Int))
 (cond (y0.1 == (4 : Int))
 (Option.bind (F139 y0.2.1 (2 : Int)) fun y7 =>
 (Option.bind (F138 y7.2.1 y7.1) fun y8 =>
 (j11 (y8.2.1, ((0 : Int), ((0 : Int), ([], ()))), (y0.1, ((0 : Int), (y8.1, ()))), ()))))
 (j11 (y0.2.1, ((0 : Int), ((0 : Int), ([], ()))), (y0.1, ((0 : Int), ([], ()))), ())))
 (cond (y0.1 == (5 : Int))
 (Option.bind (F139 y0.2.1 (2 : Int)) fun y9 =>
 (Option.bind (F138 y9.2.1 y9.1) fun y10 =>
 (j11 (y10.2.1, ((0 : Int), ((0 : Int), ([], ()))), (y0.1, ((0 : Int), (y10.1, ()))), ()))))
 (j11 (y0.2.1, ((0 : Int), ((0 : Int), ([], ()))), (y0.1, ((0 : Int), ([], ()))), ())))))))))
def C140 : Fun := ⟨[(.io Y72 .z)], [(Y52, .z)], fun z => F140 z.1⟩
def E140 : Env := ⟨30, tyTab tys, oneTab ones, fnTab [(138, C138), (139, C139)], false, [], [(11, [2, 3], [4]), (100000, [2, 3], [4]), (99999, [2], [4])], none, [], []⟩
def L140 : List (LoopS (D52 × D72 × Unit)) := []
theorem C140_ok : IoOk Tryz.prog 140 C140 := tI E140 L140 [] Tryz.func140 ty_ok (.consIo C138_ok (.consIo C139_ok .nil)) (fun p => .nil)
def F99_R2 (e0_0 : D72 × List (D112) × Unit → Option (List (D112) × Bool × Unit)) (rec : D72 × List (D112) × Unit → Option (List (D112) × Bool × Unit)) (x2 : D72 × List (D112) × Unit) : Option (List (D112) × Bool × Unit) :=
 (cond (!(x2.1.1 == []))
 (cond (!x2.1.2.1)
 (Option.bind (F139 x2.1 (1 : Int)) fun y4 =>
 (Option.bind (F138 y4.2.1 y4.1) fun y5 =>
 (Option.bind (F140 y5.2.1) fun y6 =>
 (gd (decide (((List.length x2.2.1) + (List.length [(y5.1, (y6.1, ()))])) ≤ lim))
 (rec (y6.2.1, (x2.2.1 ++ [(y5.1, (y6.1, ()))]), ()))))))
 (e0_0 (x2.1, x2.2.1, ())))
 (e0_0 (x2.1, x2.2.1, ())))
def F99 (a0 : D52) : Option (List (D112) × Bool × Unit) :=
 (iter (F99_R2
 (fun y7 =>
 (some (y7.2.1, ((!y7.1.2.1), ()))))) fuel ((a0.2.2.1, (false, ())), [], ()))
def C99 : Fun := ⟨[(.ro Y52)], [((.slice Y112), (.own .z)), (.bool, .z)], fun z => F99 z.1⟩
def E99 : Env := ⟨39, tyTab tys, oneTab ones, fnTab [(138, C138), (139, C139), (140, C140)], true, [], [(2, [4, 5], []), (3, [4, 5], []), (4, [4, 5], []), (100000, [4, 5], []), (100001, [4, 5], []), (99999, [2, 3], [])], none, [], []⟩
def L99 : List (LoopS (List (D112) × Bool × Unit)) := [⟨2, ⟨[(4, (.ptr 72 [])), (5, (.ref (.slice Y112) 80 []))], [(72, (.data true Y72 .z)), (80, (.data false (.slice Y112) (.own .z)))]⟩, fun κ => F99_R2 (fun y => κ.exit 0 (SSh.mk' ⟨[(4, (.ptr 72 [])), (5, (.ref (.slice Y112) 80 []))], [(72, (.data true Y72 .z)), (80, (.data false (.slice Y112) (.own .z)))]⟩ y))⟩]
theorem L99_2 : RoundEq E99 L99 L99[0] (nthLoop (codeOf Tryz.f99) 0) := fun κ N x => by kernel_rfl
theorem C99_ok : FreshOk Tryz.prog 99 C99 := tF E99 L99 [nthLoop (codeOf Tryz.f99) 0] Tryz.func99 ty_ok (.consIo C138_ok (.consIo C139_ok (.consIo C140_ok .nil))) (.cons L99[0] (by kernel_rfl) L99_2 .nil)
def F132_R2 (e0_0 : D72 × List (D52) × Unit → Option (List (D52) × Bool × Unit)) (rec : D72 × List (D52) × Unit → Option (List (D52) × Bool × Unit)) (x2 : D72 × List (D52) × Unit) : Option (List (D52) × Bool × Unit) :=
 (cond (!(x2.1.1 == []))
 (cond (!x2.1.2.1)
 (Option.bind (F140 x2.1) fun y4 =>
 (gd (decide (((List.length x2.2.1) + (List.length [y4.1])) ≤ lim))
 (rec (y4.2.1, (x2.2.1 ++ [y4.1]), ()))))
 (e0_0 (x2.1, x2.2.1, ())))
 (e0_0 (x2.1, x2.2.1, ())))
def F132 (a0 : D52) : Option (List (D52) × Bool × Unit) :=
 (iter (F132_R2
 (fun y5 =>
 (some (y5.2.1, ((!y5.1.2.1), ()))))) fuel ((a0.2.2.1, (false, ())), [], ()))
def C132 : Fun := ⟨[(.ro Y52)], [((.slice Y52), .z), (.bool, .z)], fun z => F132 z.1⟩
def E132 : Env := ⟨34, tyTab tys, oneTab ones, fnTab [(140, C140)], false, [], [(2, [4, 5], []), (3, [4, 5], []), (4, [4, 5], []), (100000, [4, 5], []), (100001, [4, 5], []), (99999, [2, 3], [])], none, [], []⟩
def L132 : List (LoopS (List (D52) × Bool × Unit)) := [⟨2, ⟨[(4, (.ptr 72 [])), (5, (.ref (.slice Y52) 80 []))], [(72, (.data true Y72 .z)), (80, (.data false (.slice Y52) (.own .z)))]⟩, fun κ => F132_R2 (fun y => κ.exit 0 (SSh.mk' ⟨[(4, (.ptr 72 [])), (5, (.ref (.slice Y52) 80 []))], [(72, (.data true Y72 .z)), (80, (.data false (.slice Y52) (.own .z)))]⟩ y))⟩]
theorem L132_2 : RoundEq E132 L132 L132[0] (nthLoop (codeOf Tryz.f132) 0) := fun κ N x => by kernel_rfl
theorem C132_ok : QuietOk Tryz.prog 132 C132 := tQ E132 L132 [nthLoop (codeOf Tryz.f132) 0] Tryz.func132 ty_ok (.consIo C140_ok .nil) (.cons L132[0] (by kernel_rfl) L132_2 .nil)
def F180_R6 (e0_0 : Bool × List (D52) × Unit → Option (List (D52) × Bool × Unit)) (rec : Bool × Int × Int × List (D112) × List (D52) × Unit → Option (List (D52) × Bool × Unit)) (x5 : Bool × Int × Int × List (D112) × List (D52) × Unit) : Option (List (D52) × Bool × Unit) :=
 (cond (decide (x5.2.2.1 < x5.2.1))
 (gd (decide ((0 : Int) ≤ x5.2.2.1))
 (gd (decide (x5.2.2.1 < (((List.length x5.2.2.2.1) : Nat) : Int)))
 (Option.bind x5.2.2.2.1[(Int.toNat x5.2.2.1)]? fun y7 =>
 (cond x5.1
 (Option.bind (F54 y7.1) fun y8 =>
 (cond y8.1
 (cond (x5.2.2.1 == (0 : Int))
 (gd (decide (((List.length x5.2.2.2.2.1) + (List.length [y7.2.1])) ≤ lim))
 (rec (true, x5.2.1, (IntKind.wrap IntKind.i64 (x5.2.2.1 + (1 : Int))), x5.2.2.2.1, (x5.2.2.2.2.1 ++ [y7.2.1]), ())))
 (gd (decide ((0 : Int) ≤ (IntKind.wrap IntKind.i64 (x5.2.2.1 - (1 : Int)))))
 (gd (decide ((IntKind.wrap IntKind.i64 (x5.2.2.1 - (1 : Int))) < (((List.length x5.2.2.2.1) : Nat) : Int)))
 (Option.bind x5.2.2.2.1[(Int.toNat (IntKind.wrap IntKind.i64 (x5.2.2.1 - (1 : Int))))]? fun y9 =>
 (gd (decide (((List.length x5.2.2.2.2.1) + (List.length [y7.2.1])) ≤ lim))
 (rec ((Op.bytesLess y9.1 y7.1), x5.2.1, (IntKind.wrap IntKind.i64 (x5.2.2.1 + (1 : Int))), x5.2.2.2.1, (x5.2.2.2.2.1 ++ [y7.2.1]), ())))))))
 (gd (decide (((List.length x5.2.2.2.2.1) + (List.length [y7.2.1])) ≤ lim))
 (rec (false, x5.2.1, (IntKind.wrap IntKind.i64 (x5.2.2.1 + (1 : Int))), x5.2.2.2.1, (x5.2.2.2.2.1 ++ [y7.2.1]), ())))))
 (gd (decide (((List.length x5.2.2.2.2.1) + (List.length [y7.2.1])) ≤ lim))
 (rec (false, x5.2.1, (IntKind.wrap IntKind.i64 (x5.2.2.1 + (1 : Int))), x5.2.2.2.1, (x5.2.2.2.2.1 ++ [y7.2.1]), ())))))))
 (e0_0 (x5.1, x5.2.2.2.2.1, ())))
def F180 (a0 : D52) : Option (List (D52) × Bool × Unit) :=
 (cond (a0.1 == (4 : Int))
 (Option.bind (F132 a0) fun y1 =>
 (some (y1.1, (y1.2.1, ()))))
 (Option.bind (F99 a0) fun y2 =>
 (iter (F180_R6
 (fun y10 =>
 (some (y10.2.1, (y10.1, ()))))) fuel (y2.2.1, (((List.length y2.1) : Nat) : Int), (0 : Int), y2.1, [], ()))))
def C180 : Fun := ⟨[(.ro Y52)], [((.slice Y52), .z), (.bool, .z)], fun z => F180 z.1⟩
def E180 : Env := ⟨58, tyTab tys, oneTab ones, fnTab [(54, C54), (99, C99), (132, C132)], false, [], [(3, [1], []), (6, [4, 5, 6, 22, 23, 24], []), (7, [4, 5, 6, 22, 23, 24], []), (11, [5, 6], []), (100000, [5, 6], []), (100001, [4, 5, 6, 22, 23, 24], []), (99999, [2, 3], [])], none, [], []⟩
def L180 : List (LoopS (List (D52) × Bool × Unit)) := [⟨6, ⟨[(4, (.ref (.slice Y112) 144 [])), (5, (.pv .bool)), (6, (.ref (.slice Y52) 168 [])), (22, (.ref (.slice Y112) 144 [])), (23, (.pv (.int .i64))), (24, (.pv (.int .i64)))], [(144, (.data false (.slice Y112) (.own .z))), (168, (.data false (.slice Y52) (.own .z)))]⟩, fun κ => F180_R6 (fun y => κ.exit 0 (SSh.mk' ⟨[(5, (.pv .bool)), (6, (.ref (.slice Y52) 168 []))], [(168, (.data false (.slice Y52) (.own .z)))]⟩ y))⟩]
theorem L180_6 : RoundEq E180 L180 L180[0] (nthLoop (codeOf Tryz.f180) 0) := fun κ N x => by kernel_rfl
theorem C180_ok : QuietOk Tryz.prog 180 C180 := tQ E180 L180 [nthLoop (codeOf Tryz.f180) 0] Tryz.func180 ty_ok (.cons C54_ok (.consFr C99_ok (.cons C132_ok .nil))) (.cons L180[0] (by kernel_rfl) L180_6 .nil)
abbrev G156 : Type := (D52) → (Int) → Option (Bool × Unit)
def H156 (g : G156) : Fun := ⟨[(.ro Y52), (.ro (.int .i64))], [(.bool, .z)], fun z => g z.1 z.2.1⟩
def B181 (g : G156) (a0 : D52) (a1 : Int) : Option (Bool × Unit) :=
 (Option.bind (g a0 (IntKind.wrap IntKind.i64 (a1 - (1 : Int)))) fun y0 =>
 (some ((!y0.1), ())))
def K181 (g : G156) : Fun := ⟨[(.ro Y52), (.rp (.int .i64))], [(.bool, .z)], fun z => B181 g z.1 z.2.1⟩
def E181 (g : G156) : Env := ⟨9, tyTab tys, oneTab ones, fnTab [(156, (H156 g))], false, [], [(99999, [3], [])], none, [], []⟩
def L181 (g : G156) : List (LoopS (Bool × Unit)) := []
theorem K181_ok (g : G156) (hg : QuietOk Tryz.prog 156 (H156 g)) : QuietOk Tryz.prog 181 (K181 g) := tQ (E181 g) (L181 g) [] Tryz.func181 ty_ok (.cons hg .nil) .nil
def B156 (g : G156) (a0 : D52) (a1 : Int) : Option (Bool × Unit) :=
 (let j8 : Unit → Option (Bool × Unit) := fun (y9 : Unit) =>
 (some (false, ()))
 (cond (a0.1 == (0 : Int))
 (some (((decide (a0.1 = (0 : Int))) && ((decide (a0.2.1 = (0 : Int))) && ((a0.2.2.1 == []) && true))), ()))
 (cond (a0.1 == (1 : Int))
 (Option.bind (F52 a0.2.1 (0 : Int) (1 : Int)) fun y1 =>
 (cond y1.1
 (some ((a0.2.2.1 == []), ()))
 (some (false, ()))))
 (cond (a0.1 == (2 : Int))
 (Option.bind (F179 a0.2.1) fun y2 =>
 (cond y2.1
 (some ((a0.2.2.1 == []), ()))
 (some (false, ()))))
 (cond (a0.1 == (3 : Int))
 (cond (a0.2.1 == (0 : Int))
 (some ((decide ((((List.length a0.2.2.1) : Nat) : Int) ≤ (300 : Int))), ()))
 (some (false, ())))
 (cond (a0.1 == (4 : Int))
 (cond (a0.1 == (4 : Int))
 (Option.bind (F180 a0) fun y4 =>
 (cond (a0.2.1 == (0 : Int))
 (cond (decide ((((List.length a0.2.2.1) : Nat) : Int) ≤ (300 : Int)))
 (cond (decide (a1 > (0 : Int)))
 (cond y4.2.1
 (Option.bind (F126 y4.1 (fun (v6 : D52) => (Option.map (fun (v7 : (Bool × Unit)) => v7.1) (B181 g v6 a1)))) fun y5 =>
 (some ((!y5.1), ())))
 (some (false, ())))
 (some (false, ())))
 (some (false, ())))
 (some (false, ()))))
 (j8 (())))
 (cond (a0.1 == (5 : Int))
 (Option.bind (F180 a0) fun y6 =>
 (cond (a0.2.1 == (0 : Int))
 (cond (decide ((((List.length a0.2.2.1) : Nat) : Int) ≤ (300 : Int)))
 (cond (decide (a1 > (0 : Int)))
 (cond y6.2.1
 (Option.bind (F126 y6.1 (fun (v6 : D52) => (Option.map (fun (v7 : (Bool × Unit)) => v7.1) (B181 g v6 a1)))) fun y7 =>
 (some ((!y7.1), ())))
 (some (false, ())))
 (some (false, ())))
 (some (false, ())))
 (some (false, ()))))
 (j8 (())))))))))
def K156 (g : G156) : Fun := ⟨[(.ro Y52), (.ro (.int .i64))], [(.bool, .z)], fun z => B156 g z.1 z.2.1⟩
def E156 (g : G156) : Env := ⟨75, tyTab tys, oneTab ones, fnTab [(52, C52), (126, C126), (179, C179), (180, C180), (181, (K181 g))], false, [], [(14, [], []), (100000, [], []), (99999, [4], [])], none, [], []⟩
def L156 (g : G156) : List (LoopS (Bool × Unit)) := []
theorem K156_ok (g : G156) (hg : QuietOk Tryz.prog 156 (H156 g)) : QuietOk Tryz.prog 156 (K156 g) := tQ (E156 g) (L156 g) [] Tryz.func156 ty_ok (.cons C52_ok (.cons C126_ok (.cons C179_ok (.cons C180_ok (.cons (K181_ok g hg) .nil))))) .nil
def S156 : Nat → G156
  | 0 => fun _ _ => none
  | k + 1 => B156 (S156 k)
def F156 : G156 := S156 fuel
def C156 : Fun := H156 F156
theorem C156_all : ∀ k, QuietOk Tryz.prog 156 (H156 (S156 k))
  | 0 => QuietOk.none Tryz.func156 (by rfl) (by decide) fun _ => rfl
  | k + 1 => K156_ok (S156 k) (C156_all k)
theorem C156_ok : QuietOk Tryz.prog 156 C156 := C156_all fuel
def F119 (a0 : D52) : Option (Bool × Unit) :=
 (Option.bind (F156 a0 (5 : Int)) fun y0 =>
 (some (y0.1, ())))
def C119 : Fun := ⟨[(.ro Y52)], [(.bool, .z)], fun z => F119 z.1⟩
def E119 : Env := ⟨5, tyTab tys, oneTab ones, fnTab [(156, C156)], false, [], [(99999, [2], [])], none, [], []⟩
def L119 : List (LoopS (Bool × Unit)) := []
theorem C119_ok : QuietOk Tryz.prog 119 C119 := tQ E119 L119 [] Tryz.func119 ty_ok (.cons C156_ok .nil) .nil
def F81 (a0 : D102) : Option (Bool × Unit) :=
 (Option.bind (F118 a0.2.1) fun y1 =>
 (cond (!y1.1)
 (some (false, ()))
 (Option.bind (F119 a0.2.2.1) fun y2 =>
 (cond (!y2.1)
 (some (false, ()))
 (cond (a0.1 == (7 : Int))
 (some ((a0.2.2.1.1 == (4 : Int)), ()))
 (cond (a0.1 == (8 : Int))
 (some ((a0.2.2.1.1 == (1 : Int)), ()))
 (cond (a0.1 == (9 : Int))
 (cond (a0.2.2.1.1 == (2 : Int))
 (Option.bind (F52 a0.2.2.1.2.1 (0 : Int) (5 : Int)) fun y4 =>
 (some (y4.1, ())))
 (some (false, ())))
 (cond (a0.1 == (10 : Int))
 (cond (a0.2.2.1.1 == (2 : Int))
 (some ((decide (a0.2.2.1.2.1 ≥ (0 : Int))), ()))
 (some (false, ())))
 (Option.bind (F52 a0.1 (1 : Int) (6 : Int)) fun y5 =>
 (some (y5.1, ())))))))))))
def C81 : Fun := ⟨[(.ro Y102)], [(.bool, .z)], fun z => F81 z.1⟩
def E81 : Env := ⟨54, tyTab tys, oneTab ones, fnTab [(52, C52), (118, C118), (119, C119)], false, [], [(3, [1], []), (12, [1], []), (100000, [1], []), (99999, [2], [])], none, [], []⟩
def L81 : List (LoopS (Bool × Unit)) := []
theorem C81_ok : QuietOk Tryz.prog 81 C81 := tQ E81 L81 [] Tryz.func81 ty_ok (.cons C52_ok (.cons C118_ok (.cons C119_ok .nil))) .nil
def F80 (a0 : D102) : Option (Bool × Unit) :=
 (Option.bind (F81 a0) fun y0 =>
 (some ((!y0.1), ())))
def C80 : Fun := ⟨[(.ro Y102)], [(.bool, .z)], fun z => F80 z.1⟩
def E80 : Env := ⟨6, tyTab tys, oneTab ones, fnTab [(81, C81)], false, [], [(99999, [2], [])], none, [], []⟩
def L80 : List (LoopS (Bool × Unit)) := []
theorem C80_ok : QuietOk Tryz.prog 80 C80 := tQ E80 L80 [] Tryz.func80 ty_ok (.cons C81_ok .nil) .nil
def F78 (a0 : D96) : Option (Bool × Unit) :=
 (cond (decide ((((List.length a0.1) : Nat) : Int) > (4 : Int)))
 (some (true, ()))
 (Option.bind (F79 a0.1 (fun (v2 : D102) => (Option.map (fun (v3 : (Bool × Unit)) => v3.1) (F80 v2)))) fun y0 =>
 (some (y0.1, ()))))
def C78 : Fun := ⟨[(.ro Y96)], [(.bool, .z)], fun z => F78 z.1⟩
def E78 : Env := ⟨12, tyTab tys, oneTab ones, fnTab [(79, C79), (80, C80)], false, [], [(99999, [2], [])], none, [], []⟩
def L78 : List (LoopS (Bool × Unit)) := []
theorem C78_ok : QuietOk Tryz.prog 78 C78 := tQ E78 L78 [] Tryz.func78 ty_ok (.cons C79_ok (.cons C80_ok .nil)) .nil
def F50 (a0 : D23) : Option (Bool × Unit) :=
 (Option.bind (F52 (((List.length a0.1) : Nat) : Int) (1 : Int) (3 : Int)) fun y0 =>
 (cond y0.1
 (Option.bind (F77 a0.1 (fun (v3 : D96) => (Option.map (fun (v4 : (Bool × Unit)) => v4.1) (F78 v3)))) fun y1 =>
 (some ((!y1.1), ())))
 (some (false, ()))))
def C50 : Fun := ⟨[(.ro Y23)], [(.bool, .z)], fun z => F50 z.1⟩
def E50 : Env := ⟨13, tyTab tys, oneTab ones, fnTab [(52, C52), (77, C77), (78, C78)], false, [], [(99999, [2], [])], none, [], []⟩
def L50 : List (LoopS (Bool × Unit)) := []
theorem C50_ok : QuietOk Tryz.prog 50 C50 := tQ E50 L50 [] Tryz.func50 ty_ok (.cons C52_ok (.cons C77_ok (.cons C78_ok .nil))) .nil
def F120_R2 (e0_0 : Unit → Option (Int × Unit)) (er_1 : Int × Unit → Option (Int × Unit)) (rec : List (D72) × (D72 → Option (Bool)) × Int × Int × Unit → Option (Int × Unit)) (x2 : List (D72) × (D72 → Option (Bool)) × Int × Int × Unit) : Option (Int × Unit) :=
 (cond (decide (x2.2.2.2.1 < x2.2.2.1))
 (gd (decide ((0 : Int) ≤ x2.2.2.2.1))
 (Option.bind x2.1[(Int.toNat x2.2.2.2.1)]? fun y5 =>
 (Option.bind (x2.2.1 y5) fun y6 =>
 (cond y6
 (er_1 (x2.2.2.2.1, ()))
 (rec (x2.1, x2.2.1, x2.2.2.1, (IntKind.wrap IntKind.i64 (x2.2.2.2.1 + (1 : Int))), ()))))))
 (e0_0 (())))
def F120 (a0 : List (D72)) (a1 : (D72 → Option (Bool))) : Option (Int × Unit) :=
 (iter (F120_R2
 (fun y7 =>
 (some ((-(1 : Int)), ())))
 (fun y8 =>
 (some (y8.1, ())))) fuel (a0, a1, (((List.length a0) : Nat) : Int), (0 : Int), ()))
def C120 : Fun := ⟨[(.ro (.slice Y72)), (.fn Y72 .bool)], [((.int .i64), .z)], fun z => F120 z.1 z.2.1⟩
def E120 : Env := ⟨19, tyTab tys, oneTab ones, fnTab [], false, [], [(2, [0, 1, 7, 8], []), (3, [0, 1, 7, 8], []), (6, [0, 1, 7, 8], []), (7, [], []), (100000, [], []), (100001, [0, 1, 7, 8], []), (99999, [4], [])], none, [], []⟩
def L120 : List (LoopS (Int × Unit)) := [⟨2, ⟨[(0, (.pv (.slice Y72))), (1, (.fnA Y72 .bool)), (7, (.pv (.int .i64))), (8, (.pv (.int .i64)))], []⟩, fun κ => F120_R2 (fun y => κ.exit 0 (SSh.mk' ⟨[], []⟩ y)) (fun y => κ.ret (SSh.mk' ⟨[(4, (.pv (.int .i64)))], []⟩ y))⟩]
theorem L120_2 : RoundEq E120 L120 L120[0] (nthLoop (codeOf Tryz.f120) 0) := fun κ N x => by kernel_rfl
theorem C120_ok : QuietOk Tryz.prog 120 C120 := tQ E120 L120 [nthLoop (codeOf Tryz.f120) 0] Tryz.func120 ty_ok .nil (.cons L120[0] (by kernel_rfl) L120_2 .nil)
def F82 (a0 : List (D72)) (a1 : (D72 → Option (Bool))) : Option (Bool × Unit) :=
 (Option.bind (F120 a0 a1) fun y0 =>
 (some ((decide (y0.1 ≥ (0 : Int))), ())))
def C82 : Fun := ⟨[(.ro (.slice Y72)), (.fn Y72 .bool)], [(.bool, .z)], fun z => F82 z.1 z.2.1⟩
def E82 : Env := ⟨9, tyTab tys, oneTab ones, fnTab [(120, C120)], false, [], [(99999, [4], [])], none, [], []⟩
def L82 : List (LoopS (Bool × Unit)) := []
theorem C82_ok : QuietOk Tryz.prog 82 C82 := tQ E82 L82 [] Tryz.func82 ty_ok (.cons C120_ok .nil) .nil
def F84 (a0 : D72) : Option (Bool × Unit) :=
 (Option.bind (F118 a0.1) fun y0 =>
 (some (y0.1, ())))
def C84 : Fun := ⟨[(.ro Y72)], [(.bool, .z)], fun z => F84 z.1⟩
def E84 : Env := ⟨6, tyTab tys, oneTab ones, fnTab [(118, C118)], false, [], [(99999, [2], [])], none, [], []⟩
def L84 : List (LoopS (Bool × Unit)) := []
theorem C84_ok : QuietOk Tryz.prog 84 C84 := tQ E84 L84 [] Tryz.func84 ty_ok (.cons C118_ok .nil) .nil
def F83 (a0 : D72) : Option (Bool × Unit) :=
 (Option.bind (F84 a0) fun y0 =>
 (some ((!y0.1), ())))
def C83 : Fun := ⟨[(.ro Y72)], [(.bool, .z)], fun z => F83 z.1⟩
def E83 : Env := ⟨6, tyTab tys, oneTab ones, fnTab [(84, C84)], false, [], [(99999, [2], [])], none, [], []⟩
def L83 : List (LoopS (Bool × Unit)) := []
theorem C83_ok : QuietOk Tryz.prog 83 C83 := tQ E83 L83 [] Tryz.func83 ty_ok (.cons C84_ok .nil) .nil
def F51 (a0 : List (D72)) : Option (Bool × Unit) :=
 (cond (decide ((((List.length a0) : Nat) : Int) ≤ (2 : Int)))
 (Option.bind (F82 a0 (fun (v2 : D72) => (Option.map (fun (v3 : (Bool × Unit)) => v3.1) (F83 v2)))) fun y0 =>
 (some ((!y0.1), ())))
 (some (false, ())))
def C51 : Fun := ⟨[(.ro (.slice Y72))], [(.bool, .z)], fun z => F51 z.1⟩
def E51 : Env := ⟨11, tyTab tys, oneTab ones, fnTab [(82, C82), (83, C83)], false, [], [(99999, [2], [])], none, [], []⟩
def L51 : List (LoopS (Bool × Unit)) := []
theorem C51_ok : QuietOk Tryz.prog 51 C51 := tQ E51 L51 [] Tryz.func51 ty_ok (.cons C82_ok (.cons C83_ok .nil)) .nil
def F86 (a0 : List UInt8) : Option (Bool × Unit) :=
 (Option.bind (F54 a0) fun y0 =>
 (some ((!y0.1), ())))
def C86 : Fun := ⟨[(.ro .str)], [(.bool, .z)], fun z => F86 z.1⟩
def E86 : Env := ⟨6, tyTab tys, oneTab ones, fnTab [(54, C54)], false, [], [(99999, [2], [])], none, [], []⟩
def L86 : List (LoopS (Bool × Unit)) := []
theorem C86_ok : QuietOk Tryz.prog 86 C86 := tQ E86 L86 [] Tryz.func86 ty_ok (.cons C54_ok .nil) .nil
def F53 (a0 : List (List UInt8)) : Option (Bool × Unit) :=
 (Option.bind (F85 a0 (fun (v2 : List UInt8) => (Option.map (fun (v3 : (Bool × Unit)) => v3.1) (F86 v2)))) fun y0 =>
 (some ((!y0.1), ())))
def C53 : Fun := ⟨[(.ro (.slice .str))], [(.bool, .z)], fun z => F53 z.1⟩
def E53 : Env := ⟨6, tyTab tys, oneTab ones, fnTab [(85, C85), (86, C86)], false, [], [(99999, [2], [])], none, [], []⟩
def L53 : List (LoopS (Bool × Unit)) := []
theorem C53_ok : QuietOk Tryz.prog 53 C53 := tQ E53 L53 [] Tryz.func53 ty_ok (.cons C85_ok (.cons C86_ok .nil)) .nil
def F26 (a0 : D27) : Option (Bool × Unit) :=
 (Option.bind (F50 a0.1) fun y0 =>
 (cond y0.1
 (Option.bind (F51 a0.2.1) fun y1 =>
 (cond y1.1
 (Option.bind (F52 a0.2.2.1 (0 : Int) (100 : Int)) fun y2 =>
 (cond y2.1
 (Option.bind (F52 a0.2.2.2.1 (0 : Int) (100 : Int)) fun y3 =>
 (cond y3.1
 (cond (decide ((((List.length a0.2.2.2.2.1) : Nat) : Int) ≤ (4 : Int)))
 (Option.bind (F53 a0.2.2.2.2.1) fun y4 =>
 (cond y4.1
 (cond (a0.2.2.2.2.2.1 == [])
 (some (true, ()))
 (Option.bind (F54 a0.2.2.2.2.2.1) fun y5 =>
 (some (y5.1, ()))))
 (some (false, ()))))
 (some (false, ())))
 (some (false, ()))))
 (some (false, ()))))
 (some (false, ()))))
 (some (false, ()))))
def C26 : Fun := ⟨[(.ro Y27)], [(.bool, .z)], fun z => F26 z.1⟩
def E26 : Env := ⟨42, tyTab tys, oneTab ones, fnTab [(50, C50), (51, C51), (52, C52), (53, C53), (54, C54)], false, [], [(99999, [2], [])], none, [], []⟩
def L26 : List (LoopS (Bool × Unit)) := []
theorem C26_ok : QuietOk Tryz.prog 26 C26 := tQ E26 L26 [] Tryz.func26 ty_ok (.cons C50_ok (.cons C51_ok (.cons C52_ok (.cons C53_ok (.cons C54_ok .nil))))) .nil
def F172 (a0 : List UInt8) (a1 : List UInt8) : Option (Int × Unit) :=
 (Option.bind (F188 a0 a1) fun y0 =>
 (some (y0.1, ())))
def C172 : Fun := ⟨[(.ro .str), (.ro .str)], [((.int .i64), .z)], fun z => F172 z.1 z.2.1⟩
def E172 : Env := ⟨8, tyTab tys, oneTab ones, fnTab [], false, [], [(99999, [4], [])], none, [(188, C188)], []⟩
def L172 : List (LoopS (Int × Unit)) := []
theorem C172_ok : QuietOk Tryz.prog 172 C172 := tQ E172 L172 [] Tryz.func172 ty_ok .nil .nil (hx := (.cons C188_ok .nil))
def F136 (a0 : List UInt8) (a1 : List UInt8) : Option (Int × Unit) :=
 (Option.bind (F172 a0 a1) fun y0 =>
 (some (y0.1, ())))
def C136 : Fun := ⟨[(.ro .str), (.ro .str)], [((.int .i64), .z)], fun z => F136 z.1 z.2.1⟩
def E136 : Env := ⟨8, tyTab tys, oneTab ones, fnTab [(172, C172)], false, [], [(99999, [4], [])], none, [], []⟩
def L136 : List (LoopS (Int × Unit)) := []
theorem C136_ok : QuietOk Tryz.prog 136 C136 := tQ E136 L136 [] Tryz.func136 ty_ok (.cons C172_ok .nil) .nil
def F158 (a0 : D112) (a1 : List UInt8) : Option (Int × Unit) :=
 (Option.bind (F136 a0.1 a1) fun y0 =>
 (some (y0.1, ())))
def C158 : Fun := ⟨[(.ro Y112), (.ro .str)], [((.int .i64), .z)], fun z => F158 z.1 z.2.1⟩
def E158 : Env := ⟨9, tyTab tys, oneTab ones, fnTab [(136, C136)], false, [], [(99999, [4], [])], none, [], []⟩
def L158 : List (LoopS (Int × Unit)) := []
theorem C158_ok : QuietOk Tryz.prog 158 C158 := tQ E158 L158 [] Tryz.func158 ty_ok (.cons C136_ok .nil) .nil
def F157_R3 (e0_0 : List (D112) × List UInt8 × Int × Int × Unit → Option (Int × Bool × Unit)) (rec : List (D112) × List UInt8 × Int × Int × Int × Unit → Option (Int × Bool × Unit)) (x2 : List (D112) × List UInt8 × Int × Int × Int × Unit) : Option (Int × Bool × Unit) :=
 (cond (decide (x2.2.2.2.1 < x2.2.2.2.2.1))
 (gd (decide ((0 : Int) ≤ (IntKind.wrap IntKind.i64 (Int.fdiv (IntKind.wrap IntKind.u64 (IntKind.wrap IntKind.i64 (x2.2.2.2.1 + x2.2.2.2.2.1))) ((2 : Int) ^ (Min.min (Int.toNat (1 : Int)) (IntKind.bits IntKind.u64)))))))
 (Option.bind x2.1[(Int.toNat (IntKind.wrap IntKind.i64 (Int.fdiv (IntKind.wrap IntKind.u64 (IntKind.wrap IntKind.i64 (x2.2.2.2.1 + x2.2.2.2.2.1))) ((2 : Int) ^ (Min.min (Int.toNat (1 : Int)) (IntKind.bits IntKind.u64))))))]? fun y4 =>
 (Option.bind (F158 y4 x2.2.1) fun y5 =>
 (cond (decide (y5.1 < (0 : Int)))
 (rec (x2.1, x2.2.1, x2.2.2.1, (IntKind.wrap IntKind.i64 ((IntKind.wrap IntKind.i64 (Int.fdiv (IntKind.wrap IntKind.u64 (IntKind.wrap IntKind.i64 (x2.2.2.2.1 + x2.2.2.2.2.1))) ((2 : Int) ^ (Min.min (Int.toNat (1 : Int)) (IntKind.bits IntKind.u64))))) + (1 : Int))), x2.2.2.2.2.1, ()))
 (rec (x2.1, x2.2.1, x2.2.2.1, x2.2.2.2.1, (IntKind.wrap IntKind.i64 (Int.fdiv (IntKind.wrap IntKind.u64 (IntKind.wrap IntKind.i64 (x2.2.2.2.1 + x2.2.2.2.2.1))) ((2 : Int) ^ (Min.min (Int.toNat (1 : Int)) (IntKind.bits IntKind.u64))))), ()))))))
 (e0_0 (x2.1, x2.2.1, x2.2.2.1, x2.2.2.2.1, ())))
def F157 (a0 : List (D112)) (a1 : List UInt8) (a2 : (Unit)) : Option (Int × Bool × Unit) :=
 (iter (F157_R3
 (fun y6 =>
 (cond (decide (y6.2.2.2.1 < y6.2.2.1))
 (gd (decide ((0 : Int) ≤ y6.2.2.2.1))
 (Option.bind y6.1[(Int.toNat y6.2.2.2.1)]? fun y7 =>
 (Option.bind (F158 y7 y6.2.1) fun y8 =>
 (some (y6.2.2.2.1, ((y8.1 == (0 : Int)), ()))))))
 (some (y6.2.2.2.1, (false, ())))))) fuel (a0, a1, (((List.length a0) : Nat) : Int), (0 : Int), (((List.length a0) : Nat) : Int), ()))
def C157 : Fun := ⟨[(.ro (.slice Y112)), (.ro .str), (.st 158 [])], [((.int .i64), .z), (.bool, .z)], fun z => F157 z.1 z.2.1 z.2.2.1⟩
def E157 : Env := ⟨49, tyTab tys, oneTab ones, fnTab [(158, C158)], false, [], [(3, [0, 1, 2, 8, 9, 10], []), (4, [0, 1, 2, 8, 9, 10], []), (8, [0, 1, 2, 8, 9], []), (100000, [0, 1, 2, 8, 9], []), (100001, [0, 1, 2, 8, 9, 10], []), (99999, [6, 7], [])], none, [], []⟩
def L157 : List (LoopS (Int × Bool × Unit)) := [⟨3, ⟨[(0, (.pv (.slice Y112))), (1, (.pv .str)), (2, (.clo 158 [])), (8, (.pv (.int .i64))), (9, (.pv (.int .i64))), (10, (.pv (.int .i64)))], []⟩, fun κ => F157_R3 (fun y => κ.exit 0 (SSh.mk' ⟨[(0, (.pv (.slice Y112))), (1, (.pv .str)), (2, (.clo 158 [])), (8, (.pv (.int .i64))), (9, (.pv (.int .i64)))], []⟩ y))⟩]
theorem L157_3 : RoundEq E157 L157 L157[0] (nthLoop (codeOf Tryz.f157) 0) := fun κ N x => by kernel_rfl
theorem C157_ok : QuietOk Tryz.prog 157 C157 := tQ E157 L157 [nthLoop (codeOf Tryz.f157) 0] Tryz.func157 ty_ok (.cons C158_ok .nil) (.cons L157[0] (by kernel_rfl) L157_3 .nil)
def F124 (a0 : List (D112)) (a1 : List UInt8) : Option (Int × Bool × Unit) :=
 (Option.bind (F157 a0 a1 ()) fun y0 =>
 (some (y0.1, (y0.2.1, ()))))
def C124 : Fun := ⟨[(.ro (.slice Y112)), (.ro .str)], [((.int .i64), .z), (.bool, .z)], fun z => F124 z.1 z.2.1⟩
def E124 : Env := ⟨11, tyTab tys, oneTab ones, fnTab [(157, C157), (158, C158)], false, [], [(99999, [4, 5], [])], none, [], []⟩
def L124 : List (LoopS (Int × Bool × Unit)) := []
theorem C124_ok : QuietOk Tryz.prog 124 C124 := tQ E124 L124 [] Tryz.func124 ty_ok (.cons C157_ok (.cons C158_ok .nil)) .nil
def F89 (a0 : D52) (a1 : List UInt8) : Option (D52 × Bool × Unit) :=
 (Option.bind (F99 a0) fun y0 =>
 (Option.bind (F124 y0.1 a1) fun y1 =>
 (cond (!y1.2.1)
 (some (((0 : Int), ((0 : Int), ([], ()))), (false, ())))
 (gd (decide ((0 : Int) ≤ y1.1))
 (gd (decide (y1.1 < (((List.length y0.1) : Nat) : Int)))
 (Option.bind y0.1[(Int.toNat y1.1)]? fun y3 =>
 (some (y3.2.1, (true, ())))))))))
def C89 : Fun := ⟨[(.ro Y52), (.ro .str)], [(Y52, .z), (.bool, .z)], fun z => F89 z.1 z.2.1⟩
def E89 : Env := ⟨29, tyTab tys, oneTab ones, fnTab [(99, C99), (124, C124)], false, [], [(5, [4, 6, 8], []), (99999, [4, 5], [])], none, [], []⟩
def L89 : List (LoopS (D52 × Bool × Unit)) := []
theorem C89_ok : QuietOk Tryz.prog 89 C89 := tQ E89 L89 [] Tryz.func89 ty_ok (.consFr C99_ok (.cons C124_ok .nil)) .nil
def F56 (a0 : D52) : Option (Int × Bool × Unit) :=
 (Option.bind (F89 a0 [(105 : UInt8), (100 : UInt8)]) fun y0 =>
 (cond (y0.1.1 == (2 : Int))
 (Option.bind (F52 y0.1.2.1 (0 : Int) (99 : Int)) fun y1 =>
 (some (y0.1.2.1, (y1.1, ()))))
 (some (y0.1.2.1, (false, ())))))
def C56 : Fun := ⟨[(.ro Y52)], [((.int .i64), .z), (.bool, .z)], fun z => F56 z.1⟩
def E56 : Env := ⟨21, tyTab tys, oneTab ones, fnTab [(52, C52), (89, C89)], false, [], [(99999, [2, 3], [])], none, [], []⟩
def L56 : List (LoopS (Int × Bool × Unit)) := []
theorem C56_ok : QuietOk Tryz.prog 56 C56 := tQ E56 L56 [] Tryz.func56 ty_ok (.cons C52_ok (.cons C89_ok .nil)) .nil
def F88 (a0 : D52) : Option (Bool × Unit) :=
 (cond (a0.1 == (5 : Int))
 (Option.bind (F119 a0) fun y0 =>
 (some (y0.1, ())))
 (some (false, ())))
def C88 : Fun := ⟨[(.ro Y52)], [(.bool, .z)], fun z => F88 z.1⟩
def E88 : Env := ⟨10, tyTab tys, oneTab ones, fnTab [(119, C119)], false, [], [(99999, [2], [])], none, [], []⟩
def L88 : List (LoopS (Bool × Unit)) := []
theorem C88_ok : QuietOk Tryz.prog 88 C88 := tQ E88 L88 [] Tryz.func88 ty_ok (.cons C119_ok .nil) .nil
def F55 (a0 : D52) : Option (Bool × Unit) :=
 (Option.bind (F88 a0) fun y1 =>
 (cond (!y1.1)
 (some (false, ()))
 (Option.bind (F56 a0) fun y2 =>
 (some (y2.2.1, ())))))
def C55 : Fun := ⟨[(.ro Y52)], [(.bool, .z)], fun z => F55 z.1⟩
def E55 : Env := ⟨14, tyTab tys, oneTab ones, fnTab [(56, C56), (88, C88)], false, [], [(3, [1], []), (99999, [2], [])], none, [], []⟩
def L55 : List (LoopS (Bool × Unit)) := []
theorem C55_ok : QuietOk Tryz.prog 55 C55 := tQ E55 L55 [] Tryz.func55 ty_ok (.cons C56_ok (.cons C88_ok .nil)) .nil
def F27_R3 (e0_0 : List (D52) × Unit → Option (Bool × Unit)) (er_1 : Bool × Unit → Option (Bool × Unit)) (rec : List (D52) × Int × List (D52) × Int × Int × Unit → Option (Bool × Unit)) (x2 : List (D52) × Int × List (D52) × Int × Int × Unit) : Option (Bool × Unit) :=
 (cond (decide (x2.2.2.2.2.1 < x2.2.2.2.1))
 (gd (decide ((0 : Int) ≤ x2.2.2.2.2.1))
 (Option.bind x2.2.2.1[(Int.toNat x2.2.2.2.2.1)]? fun y5 =>
 (Option.bind (F55 y5) fun y7 =>
 (cond (!y7.1)
 (er_1 (false, ()))
 (Option.bind (F56 y5) fun y8 =>
 (cond (decide (y8.1 ≤ x2.2.1))
 (er_1 (false, ()))
 (rec (x2.1, y8.1, x2.2.2.1, x2.2.2.2.1, (IntKind.wrap IntKind.i64 (x2.2.2.2.2.1 + (1 : Int))), ()))))))))
 (e0_0 (x2.1, ())))
def F27 (a0 : List (D52)) : Option (Bool × Unit) :=
 (iter (F27_R3
 (fun y10 =>
 (some ((decide ((((List.length y10.1) : Nat) : Int) ≤ (20 : Int))), ())))
 (fun y11 =>
 (some (y11.1, ())))) fuel (a0, (-(1 : Int)), a0, (((List.length a0) : Nat) : Int), (0 : Int), ()))
def C27 : Fun := ⟨[(.ro (.slice Y52))], [(.bool, .z)], fun z => F27 z.1⟩
def E27 : Env := ⟨30, tyTab tys, oneTab ones, fnTab [(55, C55), (56, C56)], false, [], [(3, [0, 3, 8, 9, 10], []), (4, [0, 3, 8, 9, 10], []), (7, [0, 3, 5, 8, 9, 10], []), (10, [0, 6, 8, 9, 10], []), (11, [0, 3, 8, 9, 10], []), (12, [0], []), (100000, [0], []), (100001, [0, 3, 8, 9, 10], []), (99999, [2], [])], none, [], []⟩
def L27 : List (LoopS (Bool × Unit)) := [⟨3, ⟨[(0, (.pv (.slice Y52))), (3, (.pv (.int .i64))), (8, (.pv (.slice Y52))), (9, (.pv (.int .i64))), (10, (.pv (.int .i64)))], []⟩, fun κ => F27_R3 (fun y => κ.exit 0 (SSh.mk' ⟨[(0, (.pv (.slice Y52)))], []⟩ y)) (fun y => κ.ret (SSh.mk' ⟨[(2, (.pv .bool))], []⟩ y))⟩]
theorem L27_3 : RoundEq E27 L27 L27[0] (nthLoop (codeOf Tryz.f27) 0) := fun κ N x => by kernel_rfl
theorem C27_ok : QuietOk Tryz.prog 27 C27 := tQ E27 L27 [nthLoop (codeOf Tryz.f27) 0] Tryz.func27 ty_ok (.cons C55_ok (.cons C56_ok .nil)) (.cons L27[0] (by kernel_rfl) L27_3 .nil)
def F57_R5 (e0_0 : Int × List (D52) × Unit → Option (List (D52) × Unit)) (rec : (D52 → Option (Bool)) × Int × Int × List (D52) × Unit → Option (List (D52) × Unit)) (x4 : (D52 → Option (Bool)) × Int × Int × List (D52) × Unit) : Option (List (D52) × Unit) :=
 (cond (decide (x4.2.2.1 < (((List.length x4.2.2.2.1) : Nat) : Int)))
 (let j10 : (D52 → Option (Bool)) × Int × Int × List (D52) × Unit → Option (List (D52) × Unit) := fun (y11 : (D52 → Option (Bool)) × Int × Int × List (D52) × Unit) =>
 (rec (y11.1, y11.2.1, (IntKind.wrap IntKind.i64 (y11.2.2.1 + (1 : Int))), y11.2.2.2.1, ()))
 (gd (decide ((0 : Int) ≤ x4.2.2.1))
 (gd (decide (x4.2.2.1 < (((List.length x4.2.2.2.1) : Nat) : Int)))
 (Option.bind x4.2.2.2.1[(Int.toNat x4.2.2.1)]? fun y7 =>
 (Option.bind (x4.1 y7) fun y8 =>
 (cond (!y8)
 (gd (decide ((0 : Int) ≤ x4.2.1))
 (gd (decide (x4.2.1 < (((List.length x4.2.2.2.1) : Nat) : Int)))
 (Option.bind x4.2.2.2.1[(Int.toNat x4.2.1)]? fun y9 =>
 (j10 (x4.1, (IntKind.wrap IntKind.i64 (x4.2.1 + (1 : Int))), x4.2.2.1, (List.set x4.2.2.2.1 (Int.toNat x4.2.1) y7), ())))))
 (j10 (x4.1, x4.2.1, x4.2.2.1, x4.2.2.2.1, ()))))))))
 (e0_0 (x4.2.1, x4.2.2.2.1, ())))
def F57 (a0 : List (D52)) (a1 : (D52 → Option (Bool))) : Option (List (D52) × Unit) :=
 (Option.bind (F90 a0 a1) fun y0 =>
 (cond (y0.1 == (-(1 : Int)))
 (some (a0, ()))
 (iter (F57_R5
 (fun y12 =>
 (gd (decide ((((List.length y12.2.1) : Nat) : Int) ≤ (((List.length y12.2.1) : Nat) : Int)))
 (gd (decide ((0 : Int) ≤ y12.1))
 (gd (decide (y12.1 ≤ (((Int.toNat (((List.length y12.2.1) : Nat) : Int)) : Nat) : Int)))
 (gd (decide ((0 : Int) ≤ y12.1))
 (gd (decide (y12.1 ≤ (((List.length (wipe Y52 y12.2.1 (Int.toNat y12.1) (Int.toNat (((List.length y12.2.1) : Nat) : Int)))) : Nat) : Int)))
 (some ((pre (Ty.slice (Ty.pair (Ty.int IntKind.i64) (Ty.pair (Ty.int IntKind.i64) (Ty.pair Ty.str Ty.unit)))) (wipe Y52 y12.2.1 (Int.toNat y12.1) (Int.toNat (((List.length y12.2.1) : Nat) : Int))) (Int.toNat y12.1)), ()))))))))) fuel (a1, y0.1, (IntKind.wrap IntKind.i64 (y0.1 + (1 : Int))), a0, ()))))
def C57 : Fun := ⟨[(.tk (.slice Y52) (.own .z)), (.fn Y52 .bool)], [((.slice Y52), (.own .z))], fun z => F57 z.1 z.2.1⟩
def E57 : Env := ⟨42, tyTab tys, oneTab ones, fnTab [(90, C90)], true, [], [(4, [0, 1, 5], []), (5, [0, 1, 5, 6], []), (6, [0, 1, 5, 6], []), (7, [0, 1, 5, 6], []), (11, [0, 5], []), (100000, [0, 5], []), (100001, [0, 1, 5, 6], []), (99999, [4], [])], none, [], []⟩
def L57 : List (LoopS (List (D52) × Unit)) := [⟨5, ⟨[(0, (.ref (.slice Y52) 4 [])), (1, (.fnA Y52 .bool)), (5, (.pv (.int .i64))), (6, (.pv (.int .i64)))], [(4, (.data false (.slice Y52) (.own .z)))]⟩, fun κ => F57_R5 (fun y => κ.exit 0 (SSh.mk' ⟨[(0, (.ref (.slice Y52) 4 [])), (5, (.pv (.int .i64)))], [(4, (.data false (.slice Y52) (.own .z)))]⟩ y))⟩]
theorem L57_5 : RoundEq E57 L57 L57[0] (nthLoop (codeOf Tryz.f57) 0) := fun κ N x => by kernel_rfl
theorem C57_ok : IoOk Tryz.prog 57 C57 := tT E57 L57 [nthLoop (codeOf Tryz.f57) 0] Tryz.func57 ty_ok (.cons C90_ok .nil) (.cons L57[0] (by kernel_rfl) L57_5 .nil)
def F58 (a0 : List (D52)) : Option (List (D52) × Unit) :=
 (let j1 : List (D52) × Unit → Option (List (D52) × Unit) := fun (y2 : List (D52) × Unit) =>
 (gd (decide (((List.length ([] : List D52)) + (List.length y2.1)) ≤ lim))
 (some (([] ++ y2.1), ())))
 (cond (List.isEmpty a0)
 (both
 (some ([], ()))
 (j1 (a0, ())))
 (j1 (a0, ()))))
def C58 : Fun := ⟨[(.ro (.slice Y52))], [((.slice Y52), (.own .z))], fun z => F58 z.1⟩
def E58 : Env := ⟨8, tyTab tys, oneTab ones, fnTab [], true, [], [(3, [0], []), (99999, [2], [])], none, [], []⟩
def L58 : List (LoopS (List (D52) × Unit)) := []
theorem C58_ok : FreshOk Tryz.prog 58 C58 := tF E58 L58 [] Tryz.func58 ty_ok .nil .nil
abbrev G159 : Type := (D52) → (List (List UInt8)) → Option (List (D52) × Unit)
def H159 (g : G159) : Fun := ⟨[(.ro Y52), (.ro (.slice .str))], [((.slice Y52), (.own .z))], fun z => g z.1 z.2.1⟩
def B159_R16 (g : G159) (e1_0 : List (D52) × Unit → Option (List (D52) × Unit)) (rec : List (List UInt8) × List (D52) × Int × Int × List (D52) × Unit → Option (List (D52) × Unit)) (x11 : List (List UInt8) × List (D52) × Int × Int × List (D52) × Unit) : Option (List (D52) × Unit) :=
 (cond (decide (x11.2.2.2.1 < x11.2.2.1))
 (let j16 : List (List UInt8) × List (D52) × Int × Int × List (D52) × Unit → Option (List (D52) × Unit) := fun (y17 : List (List UInt8) × List (D52) × Int × Int × List (D52) × Unit) =>
 (rec (y17.1, y17.2.1, y17.2.2.1, (IntKind.wrap IntKind.i64 (y17.2.2.2.1 + (1 : Int))), y17.2.2.2.2.1, ()))
 (gd (decide ((0 : Int) ≤ x11.2.2.2.1))
 (Option.bind x11.2.1[(Int.toNat x11.2.2.2.1)]? fun y14 =>
 (cond (y14.1 == (5 : Int))
 (Option.bind (g y14 x11.1) fun y15 =>
 (gd (decide (((List.length x11.2.2.2.2.1) + (List.length y15.1)) ≤ lim))
 (j16 (x11.1, x11.2.1, x11.2.2.1, x11.2.2.2.1, (x11.2.2.2.2.1 ++ y15.1), ()))))
 (j16 (x11.1, x11.2.1, x11.2.2.1, x11.2.2.2.1, x11.2.2.2.2.1, ()))))))
 (e1_0 (x11.2.2.2.2.1, ())))
def B159 (g : G159) (a0 : D52) (a1 : List (List UInt8)) : Option (List (D52) × Unit) :=
 (cond ((((List.length a1) : Nat) : Int) == (0 : Int))
 (let j3 : List (D52) × Unit → Option (List (D52) × Unit) := fun (y4 : List (D52) × Unit) =>
 (some (y4.1, ()))
 (cond (a0.1 == (4 : Int))
 (Option.bind (F132 a0) fun y2 =>
 (gd (decide (((List.length ([] ++ [a0])) + (List.length y2.1)) ≤ lim))
 (j3 ((([] ++ [a0]) ++ y2.1), ()))))
 (j3 (([] ++ [a0]), ()))))
 (let j19 : List (D52) × Unit → Option (List (D52) × Unit) := fun (y20 : List (D52) × Unit) =>
 (some (y20.1, ()))
 (cond (a0.1 == (5 : Int))
 (Option.bind a1[(Int.toNat (0 : Int))]? fun y6 =>
 (Option.bind (F89 a0 y6) fun y7 =>
 (cond y7.2.1
 (gd (decide ((((List.length a1) : Nat) : Int) ≤ (((List.length a1) : Nat) : Int)))
 (gd (decide ((1 : Int) ≤ (((Int.toNat (((List.length a1) : Nat) : Int)) : Nat) : Int)))
 (Option.bind (g y7.1 (List.drop (Int.toNat (1 : Int)) (List.take (Int.toNat (((List.length a1) : Nat) : Int)) a1))) fun y8 =>
 (some (y8.1, ())))))
 (j19 ([], ())))))
 (cond (a0.1 == (4 : Int))
 (Option.bind (F132 a0) fun y9 =>
 (iter (B159_R16 g
 (fun y18 =>
 (j19 (y18.1, ())))) fuel (a1, y9.1, (((List.length y9.1) : Nat) : Int), (0 : Int), [], ())))
 (j19 ([], ()))))))
def K159 (g : G159) : Fun := ⟨[(.ro Y52), (.ro (.slice .str))], [((.slice Y52), (.own .z))], fun z => B159 g z.1 z.2.1⟩
def E159 (g : G159) : Env := ⟨74, tyTab tys, oneTab ones, fnTab [(89, C89), (132, C132), (159, (H159 g))], true, [], [(7, [5], []), (8, [1, 2, 5], []), (16, [1, 5, 58, 59, 60], []), (17, [1, 5, 58, 59, 60], []), (20, [1, 5, 58, 59, 60], []), (21, [5], []), (100000, [5], []), (100001, [5], []), (100002, [1, 5, 58, 59, 60], []), (99999, [4], [])], none, [], []⟩
def L159 (g : G159) : List (LoopS (List (D52) × Unit)) := [⟨16, ⟨[(1, (.pv (.slice .str))), (5, (.ref (.slice Y52) 112 [])), (58, (.pv (.slice Y52))), (59, (.pv (.int .i64))), (60, (.pv (.int .i64)))], [(112, (.data false (.slice Y52) (.own .z)))]⟩, fun κ => B159_R16 g (fun y => κ.exit 1 (SSh.mk' ⟨[(5, (.ref (.slice Y52) 112 []))], [(112, (.data false (.slice Y52) (.own .z)))]⟩ y))⟩]
theorem L159_16 (g : G159) : RoundEq (E159 g) (L159 g) ((L159 g)[0]'(Nat.le_of_ble_eq_true rfl)) (nthLoop (codeOf Tryz.f159) 0) := fun κ N x => by kernel_rfl
theorem K159_ok (g : G159) (hg : FreshOk Tryz.prog 159 (H159 g)) : FreshOk Tryz.prog 159 (K159 g) := tF (E159 g) (L159 g) [nthLoop (codeOf Tryz.f159) 0] Tryz.func159 ty_ok (.cons C89_ok (.cons C132_ok (.consFr hg .nil))) (.cons ((L159 g)[0]'(Nat.le_of_ble_eq_true rfl)) (by kernel_rfl) (L159_16 g) .nil)
def S159 : Nat → G159
  | 0 => fun _ _ => none
  | k + 1 => B159 (S159 k)
def F159 : G159 := S159 fuel
def C159 : Fun := H159 F159
theorem C159_all : ∀ k, FreshOk Tryz.prog 159 (H159 (S159 k))
  | 0 => FreshOk.none Tryz.func159 (by rfl) (by decide) fun _ => rfl
  | k + 1 => K159_ok (S159 k) (C159_all k)
theorem C159_ok : FreshOk Tryz.prog 159 C159 := C159_all fuel
def F125 (a0 : D52) (a1 : List UInt8) : Option (List (D52) × Unit) :=
 (Option.bind (F154 a1 [(46 : UInt8)]) fun y0 =>
 (Option.bind (F159 a0 y0.1) fun y1 =>
 (some (y1.1, ()))))
def C125 : Fun := ⟨[(.ro Y52), (.ro .str)], [((.slice Y52), (.own .z))], fun z => F125 z.1 z.2.1⟩
def E125 : Env := ⟨9, tyTab tys, oneTab ones, fnTab [(154, C154), (159, C159)], true, [], [(99999, [4], [])], none, [], []⟩
def L125 : List (LoopS (List (D52) × Unit)) := []
theorem C125_ok : FreshOk Tryz.prog 125 C125 := tF E125 L125 [] Tryz.func125 ty_ok (.cons C154_ok (.consFr C159_ok .nil)) .nil
def F130_R3 (e0_0 : Int × Unit → Option (Int × Unit)) (er_1 : Int × Unit → Option (Int × Unit)) (rec : Int × List (Int) × Int × Int × Unit → Option (Int × Unit)) (x2 : Int × List (Int) × Int × Int × Unit) : Option (Int × Unit) :=
 (cond (decide (x2.2.2.2.1 < x2.2.2.1))
 (gd (decide ((0 : Int) ≤ x2.2.2.2.1))
 (Option.bind x2.2.1[(Int.toNat x2.2.2.2.1)]? fun y5 =>
 (cond (y5 != x2.1)
 (er_1 (y5, ()))
 (rec (x2.1, x2.2.1, x2.2.2.1, (IntKind.wrap IntKind.i64 (x2.2.2.2.1 + (1 : Int))), ())))))
 (e0_0 (x2.1, ())))
def F130 (a0 : List (Int)) : Option (Int × Unit) :=
 (iter (F130_R3
 (fun y6 =>
 (some (y6.1, ())))
 (fun y7 =>
 (some (y7.1, ())))) fuel ((0 : Int), a0, (((List.length a0) : Nat) : Int), (0 : Int), ()))
def C130 : Fun := ⟨[(.ro (.slice (.int .i64)))], [((.int .i64), .z)], fun z => F130 z.1⟩
def E130 : Env := ⟨18, tyTab tys, oneTab ones, fnTab [], false, [], [(3, [3, 6, 7, 8], []), (4, [3, 6, 7, 8], []), (7, [3, 6, 7, 8], []), (8, [3], []), (100000, [3], []), (100001, [3, 6, 7, 8], []), (99999, [2], [])], none, [], []⟩
def L130 : List (LoopS (Int × Unit)) := [⟨3, ⟨[(3, (.pv (.int .i64))), (6, (.pv (.slice (.int .i64)))), (7, (.pv (.int .i64))), (8, (.pv (.int .i64)))], []⟩, fun κ => F130_R3 (fun y => κ.exit 0 (SSh.mk' ⟨[(3, (.pv (.int .i64)))], []⟩ y)) (fun y => κ.ret (SSh.mk' ⟨[(2, (.pv (.int .i64)))], []⟩ y))⟩]
theorem L130_3 : RoundEq E130 L130 L130[0] (nthLoop (codeOf Tryz.f130) 0) := fun κ N x => by kernel_rfl
theorem C130_ok : QuietOk Tryz.prog 130 C130 := tQ E130 L130 [nthLoop (codeOf Tryz.f130) 0] Tryz.func130 ty_ok .nil (.cons L130[0] (by kernel_rfl) L130_3 .nil)
def F171 (a0 : Int) : Option (Bool × Unit) :=
 (some ((a0 != a0), ()))
def C171 : Fun := ⟨[(.ro (.int .i64))], [(.bool, .z)], fun z => F171 z.1⟩
def E171 : Env := ⟨6, tyTab tys, oneTab ones, fnTab [], false, [], [(99999, [2], [])], none, [], []⟩
def L171 : List (LoopS (Bool × Unit)) := []
theorem C171_ok : QuietOk Tryz.prog 171 C171 := tQ E171 L171 [] Tryz.func171 ty_ok .nil .nil
end
end Go.V
