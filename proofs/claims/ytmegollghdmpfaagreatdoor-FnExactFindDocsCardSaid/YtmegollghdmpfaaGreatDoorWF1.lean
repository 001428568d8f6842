/- What functions of the program compute, printed by a program of ours. No condition. -/
import Derived.Test.YtmegollghdmpfaaGreatDoorWF0
namespace Go.V
open Go.Proofs
noncomputable section
set_option maxRecDepth 100000
set_option linter.unusedVariables false
def F111_R6 (e0_0 : D52 × D52 × Unit → Option (D52 × Unit)) (rec : List (D52) × Int × D52 × D52 × Unit → Option (D52 × Unit)) (x5 : List (D52) × Int × D52 × D52 × Unit) : Option (D52 × Unit) :=
 (cond (decide (x5.2.1 < (((List.length x5.1) : Nat) : Int)))
 (let j11 : List (D52) × Int × D52 × D52 × Unit → Option (D52 × Unit) := fun (y12 : List (D52) × Int × D52 × D52 × Unit) =>
 (rec (y12.1, (IntKind.wrap IntKind.i64 (y12.2.1 + (1 : Int))), y12.2.2.1, y12.2.2.2.1, ()))
 (gd (decide ((0 : Int) ≤ x5.2.1))
 (Option.bind x5.1[(Int.toNat x5.2.1)]? fun y8 =>
 (Option.bind (F110 y8 x5.2.2.2.1) fun y9 =>
 (cond (decide (y9.1 < (0 : Int)))
 (gd (decide ((0 : Int) ≤ x5.2.1))
 (Option.bind x5.1[(Int.toNat x5.2.1)]? fun y10 =>
 (j11 (x5.1, x5.2.1, x5.2.2.1, y10, ()))))
 (j11 (x5.1, x5.2.1, x5.2.2.1, x5.2.2.2.1, ())))))))
 (e0_0 (x5.2.2.1, x5.2.2.2.1, ())))
def F111 (a0 : D52) (a1 : List UInt8) : Option (D52 × Unit) :=
 (Option.bind (F149 a0 a1) fun y0 =>
 (cond ((((List.length y0.1) : Nat) : Int) == (0 : Int))
 (some (((0 : Int), ((0 : Int), ([], ()))), ()))
 (Option.bind y0.1[(Int.toNat (0 : Int))]? fun y2 =>
 (iter (F111_R6
 (fun y13 =>
 (some (y13.2.1, ())))) fuel (y0.1, (1 : Int), ((0 : Int), ((0 : Int), ([], ()))), y2, ())))))
def C111 : Fun := ⟨[(.ro Y52), (.ro .str)], [(Y52, .z)], fun z => F111 z.1 z.2.1⟩
def E111 : Env := ⟨36, tyTab tys, oneTab ones, fnTab [(110, C110), (149, C149)], false, [], [(4, [4, 5], []), (6, [4, 5, 6, 7], []), (7, [4, 5, 6, 7], []), (8, [4, 5, 6, 7], []), (10, [4, 6], []), (100000, [4, 6], []), (100001, [4, 5, 6, 7], []), (99999, [4], [])], none, [], []⟩
def L111 : List (LoopS (D52 × Unit)) := [⟨6, ⟨[(4, (.ptr 32 [])), (5, (.pv (.slice Y52))), (6, (.ptr 48 [])), (7, (.pv (.int .i64)))], [(32, (.data true Y52 .z)), (48, (.data true Y52 .z))]⟩, fun κ => F111_R6 (fun y => κ.exit 0 (SSh.mk' ⟨[(4, (.ptr 32 [])), (6, (.ptr 48 []))], [(32, (.data true Y52 .z)), (48, (.data true Y52 .z))]⟩ y))⟩]
theorem L111_6 : RoundEq E111 L111 L111[0] (nthLoop (codeOf Tryz.f111) 0) := fun κ N x => by kernel_rfl
theorem C111_ok : QuietOk Tryz.prog 111 C111 := tQ E111 L111 [nthLoop (codeOf Tryz.f111) 0] Tryz.func111 ty_ok (.cons C110_ok (.cons C149_ok .nil)) (.cons L111[0] (by kernel_rfl) L111_6 .nil)
def F73_R2 (e0_0 : D52 × D52 × Unit → Option (Bool × Unit)) (er_1 : Bool × Unit → Option (Bool × Unit)) (rec : List (D72) × Int × D52 × D52 × Unit → Option (Bool × Unit)) (x2 : List (D72) × Int × D52 × D52 × Unit) : Option (Bool × Unit) :=
 (cond (decide (x2.2.1 < (((List.length x2.1) : Nat) : Int)))
 (gd (decide ((0 : Int) ≤ x2.2.1))
 (Option.bind x2.1[(Int.toNat x2.2.1)]? fun y5 =>
 (Option.bind (F111 x2.2.2.1 y5.1) fun y6 =>
 (gd (decide ((0 : Int) ≤ x2.2.1))
 (Option.bind x2.1[(Int.toNat x2.2.1)]? fun y7 =>
 (Option.bind (F111 x2.2.2.2.1 y7.1) fun y8 =>
 (Option.bind (F110 y6.1 y8.1) fun y9 =>
 (cond (y9.1 != (0 : Int))
 (gd (decide ((0 : Int) ≤ x2.2.1))
 (Option.bind x2.1[(Int.toNat x2.2.1)]? fun y10 =>
 (er_1 ((!((decide (y9.1 < (0 : Int))) == y10.2.1)), ()))))
 (rec (x2.1, (IntKind.wrap IntKind.i64 (x2.2.1 + (1 : Int))), x2.2.2.1, x2.2.2.2.1, ()))))))))))
 (e0_0 (x2.2.2.1, x2.2.2.2.1, ())))
def F73 (a0 : D52) (a1 : D52) (a2 : List (D72)) : Option (Bool × Unit) :=
 (iter (F73_R2
 (fun y11 =>
 (Option.bind (F44 y11.1) fun y13 =>
 (Option.bind (F44 y11.2.1) fun y14 =>
 (some ((decide (y13.1 < y14.1)), ())))))
 (fun y12 =>
 (some (y12.1, ())))) fuel (a2, (0 : Int), a0, a1, ()))
def C73 : Fun := ⟨[(.ro Y52), (.ro Y52), (.ro (.slice Y72))], [(.bool, .z)], fun z => F73 z.1 z.2.1 z.2.2.1⟩
def E73 : Env := ⟨45, tyTab tys, oneTab ones, fnTab [(44, C44), (110, C110), (111, C111)], false, [], [(2, [2, 3, 4, 7], []), (3, [2, 3, 4, 7], []), (4, [2, 3, 4, 7], []), (7, [3, 4], []), (100000, [3, 4], []), (100001, [2, 3, 4, 7], []), (99999, [6], [])], none, [], []⟩
def L73 : List (LoopS (Bool × Unit)) := [⟨2, ⟨[(2, (.pv (.slice Y72))), (3, (.ptr 24 [])), (4, (.ptr 32 [])), (7, (.pv (.int .i64)))], [(24, (.data true Y52 .z)), (32, (.data true Y52 .z))]⟩, fun κ => F73_R2 (fun y => κ.exit 0 (SSh.mk' ⟨[(3, (.ptr 24 [])), (4, (.ptr 32 []))], [(24, (.data true Y52 .z)), (32, (.data true Y52 .z))]⟩ y)) (fun y => κ.ret (SSh.mk' ⟨[(6, (.pv .bool))], []⟩ y))⟩]
theorem L73_2 : RoundEq E73 L73 L73[0] (nthLoop (codeOf Tryz.f73) 0) := fun κ N x => by kernel_rfl
theorem C73_ok : QuietOk Tryz.prog 73 C73 := tQ E73 L73 [nthLoop (codeOf Tryz.f73) 0] Tryz.func73 ty_ok (.cons C44_ok (.cons C110_ok (.cons C111_ok .nil))) (.cons L73[0] (by kernel_rfl) L73_2 .nil)
def F46_R6 (e2_0 : List (D52) × List (D72) × Int × Int × List (D52) × Unit → Option (List (D52) × Unit)) (rec : List (D52) × List (D72) × Int × Int × List (D52) × Unit → Option (List (D52) × Unit)) (x7 : List (D52) × List (D72) × Int × Int × List (D52) × Unit) : Option (List (D52) × Unit) :=
 (cond (decide (x7.2.2.2.1 > (0 : Int)))
 (gd (decide ((0 : Int) ≤ x7.2.2.1))
 (Option.bind x7.1[(Int.toNat x7.2.2.1)]? fun y9 =>
 (gd (decide ((0 : Int) ≤ (IntKind.wrap IntKind.i64 (x7.2.2.2.1 - (1 : Int)))))
 (gd (decide ((IntKind.wrap IntKind.i64 (x7.2.2.2.1 - (1 : Int))) < (((List.length x7.2.2.2.2.1) : Nat) : Int)))
 (Option.bind x7.2.2.2.2.1[(Int.toNat (IntKind.wrap IntKind.i64 (x7.2.2.2.1 - (1 : Int))))]? fun y10 =>
 (Option.bind (F73 y9 y10 x7.2.1) fun y11 =>
 (cond y11.1
 (rec (x7.1, x7.2.1, x7.2.2.1, (IntKind.wrap IntKind.i64 (x7.2.2.2.1 - (1 : Int))), x7.2.2.2.2.1, ()))
 (e2_0 (x7.1, x7.2.1, x7.2.2.1, x7.2.2.2.1, x7.2.2.2.2.1, ())))))))))
 (e2_0 (x7.1, x7.2.1, x7.2.2.1, x7.2.2.2.1, x7.2.2.2.2.1, ())))
def F46_R3 (e0_0 : List (D52) × Unit → Option (List (D52) × Unit)) (rec : List (D52) × List (D72) × Int × List (D52) × Unit → Option (List (D52) × Unit)) (x2 : List (D52) × List (D72) × Int × List (D52) × Unit) : Option (List (D52) × Unit) :=
 (cond (decide (x2.2.2.1 < (((List.length x2.1) : Nat) : Int)))
 (iter (F46_R6
 (fun y12 =>
 (gd (decide ((0 : Int) ≤ y12.2.2.2.1))
 (gd (decide (y12.2.2.2.1 ≤ (((List.length y12.2.2.2.2.1) : Nat) : Int)))
 (gd (decide ((0 : Int) ≤ y12.2.2.1))
 (Option.bind y12.1[(Int.toNat y12.2.2.1)]? fun y13 =>
 (gd (decide ((((List.length y12.2.2.2.2.1) : Nat) : Int) ≤ (((List.length y12.2.2.2.2.1) : Nat) : Int)))
 (gd (decide ((0 : Int) ≤ y12.2.2.2.1))
 (gd (decide (y12.2.2.2.1 ≤ (((Int.toNat (((List.length y12.2.2.2.2.1) : Nat) : Int)) : Nat) : Int)))
 (gd (decide (((List.length ([] : List D52)) + (List.length (List.drop (Int.toNat (0 : Int)) (List.take (Int.toNat y12.2.2.2.1) y12.2.2.2.2.1)))) ≤ lim))
 (gd (decide (((List.length ([] ++ (List.drop (Int.toNat (0 : Int)) (List.take (Int.toNat y12.2.2.2.1) y12.2.2.2.2.1)))) + (List.length [y13])) ≤ lim))
 (gd (decide (((List.length (([] ++ (List.drop (Int.toNat (0 : Int)) (List.take (Int.toNat y12.2.2.2.1) y12.2.2.2.2.1))) ++ [y13])) + (List.length (List.drop (Int.toNat y12.2.2.2.1) (List.take (Int.toNat (((List.length y12.2.2.2.2.1) : Nat) : Int)) y12.2.2.2.2.1)))) ≤ lim))
 (rec (y12.1, y12.2.1, (IntKind.wrap IntKind.i64 (y12.2.2.1 + (1 : Int))), ((([] ++ (List.drop (Int.toNat (0 : Int)) (List.take (Int.toNat y12.2.2.2.1) y12.2.2.2.2.1))) ++ [y13]) ++ (List.drop (Int.toNat y12.2.2.2.1) (List.take (Int.toNat (((List.length y12.2.2.2.2.1) : Nat) : Int)) y12.2.2.2.2.1))), ())))))))))))))) fuel (x2.1, x2.2.1, x2.2.2.1, (((List.length x2.2.2.2.1) : Nat) : Int), x2.2.2.2.1, ()))
 (e0_0 (x2.2.2.2.1, ())))
def F46 (a0 : List (D52)) (a1 : List (D72)) : Option (List (D52) × Unit) :=
 (iter (F46_R3
 (fun y14 =>
 (some (y14.1, ())))) fuel (a0, a1, (0 : Int), [], ()))
def C46 : Fun := ⟨[(.ro (.slice Y52)), (.ro (.slice Y72))], [((.slice Y52), (.own .z))], fun z => F46 z.1 z.2.1⟩
def E46 : Env := ⟨50, tyTab tys, oneTab ones, fnTab [(73, C73)], true, [344], [(3, [0, 1, 5, 6], []), (4, [0, 1, 5, 6], []), (5, [0, 1, 5, 6], []), (6, [0, 1, 5, 6, 7], []), (7, [0, 1, 5, 6, 7], []), (8, [0, 1, 5, 6, 7], []), (9, [5], []), (100000, [5], []), (100001, [0, 1, 5, 6], []), (100002, [0, 1, 5, 6, 7], []), (100003, [0, 1, 5, 6, 7], []), (200003, [], [5]), (200006, [], [5]), (99999, [4], [])], none, [], []⟩
def L46 : List (LoopS (List (D52) × Unit)) := [⟨6, ⟨[(0, (.pv (.slice Y52))), (1, (.pv (.slice Y72))), (5, (.ref (.slice Y52) 41 [])), (6, (.pv (.int .i64))), (7, (.pv (.int .i64)))], [(41, (.data false (.slice Y52) (.own .z)))]⟩, fun κ => F46_R6 (fun y => κ.exit 2 (SSh.mk' ⟨[(0, (.pv (.slice Y52))), (1, (.pv (.slice Y72))), (5, (.ref (.slice Y52) 41 [])), (6, (.pv (.int .i64))), (7, (.pv (.int .i64)))], [(41, (.data false (.slice Y52) (.own .z)))]⟩ y))⟩,
  ⟨3, ⟨[(0, (.pv (.slice Y52))), (1, (.pv (.slice Y72))), (5, (.ref (.slice Y52) 41 [])), (6, (.pv (.int .i64)))], [(41, (.data false (.slice Y52) (.own .z)))]⟩, fun κ => F46_R3 (fun y => κ.exit 0 (SSh.mk' ⟨[(5, (.ref (.slice Y52) 41 []))], [(41, (.data false (.slice Y52) (.own .z)))]⟩ y))⟩]
theorem L46_6 : RoundEq E46 L46 L46[0] (nthLoop (codeOf Tryz.f46) 1) := fun κ N x => by kernel_rfl
theorem L46_3 : RoundEq E46 L46 L46[1] (nthLoop (codeOf Tryz.f46) 0) := fun κ N x => by kernel_rfl
theorem C46_ok : FreshOk Tryz.prog 46 C46 := tF E46 L46 [nthLoop (codeOf Tryz.f46) 0, nthLoop (codeOf Tryz.f46) 1] Tryz.func46 ty_ok (.cons C73_ok .nil) (.cons L46[1] (by kernel_rfl) L46_3 (.cons L46[0] (by kernel_rfl) L46_6 .nil))
def F113_R3 (e0_0 : List (Int) × Unit → Option (List UInt8 × Unit)) (rec : Int × Int × List (Int) × Unit → Option (List UInt8 × Unit)) (x2 : Int × Int × List (Int) × Unit) : Option (List UInt8 × Unit) :=
 (cond (decide (x2.2.1 ≥ (0 : Int)))
 (cond (decide ((IntKind.wrap IntKind.u64 (IntKind.wrap IntKind.i64 ((8 : Int) * x2.2.1))) < (0 : Int)))
 none
 (gd (decide (((List.length x2.2.2.1) + (List.length [(IntKind.wrap IntKind.u8 (Int.fdiv x2.1 ((2 : Int) ^ (Min.min (Int.toNat (IntKind.wrap IntKind.u64 (IntKind.wrap IntKind.i64 ((8 : Int) * x2.2.1)))) (IntKind.bits IntKind.i64)))))])) ≤ lim))
 (rec (x2.1, (IntKind.wrap IntKind.i64 (x2.2.1 - (1 : Int))), (x2.2.2.1 ++ [(IntKind.wrap IntKind.u8 (Int.fdiv x2.1 ((2 : Int) ^ (Min.min (Int.toNat (IntKind.wrap IntKind.u64 (IntKind.wrap IntKind.i64 ((8 : Int) * x2.2.1)))) (IntKind.bits IntKind.i64)))))]), ()))))
 (e0_0 (x2.2.2.1, ())))
def F113 (a0 : Int) (a1 : Int) : Option (List UInt8 × Unit) :=
 (iter (F113_R3
 (fun y4 =>
 (some ((List.map (fun (v5 : Int) => (UInt8.ofNat (Int.toNat v5))) y4.1), ())))) fuel (a0, (IntKind.wrap IntKind.i64 (a1 - (1 : Int))), [], ()))
def C113 : Fun := ⟨[(.ro (.int .i64)), (.ro (.int .i64))], [(.str, .z)], fun z => F113 z.1 z.2.1⟩
def E113 : Env := ⟨25, tyTab tys, oneTab ones, fnTab [], false, [], [(3, [0, 5, 6], []), (5, [0, 5, 6], []), (6, [5], []), (100000, [5], []), (100001, [0, 5, 6], []), (99999, [4], [])], none, [], []⟩
def L113 : List (LoopS (List UInt8 × Unit)) := [⟨3, ⟨[(0, (.pv (.int .i64))), (5, (.ref (.slice (.int .u8)) 56 [])), (6, (.pv (.int .i64)))], [(56, (.data false (.slice (.int .u8)) (.own .z)))]⟩, fun κ => F113_R3 (fun y => κ.exit 0 (SSh.mk' ⟨[(5, (.ref (.slice (.int .u8)) 56 []))], [(56, (.data false (.slice (.int .u8)) (.own .z)))]⟩ y))⟩]
theorem L113_3 : RoundEq E113 L113 L113[0] (nthLoop (codeOf Tryz.f113) 0) := fun κ N x => by kernel_rfl
theorem C113_ok : QuietOk Tryz.prog 113 C113 := tQ E113 L113 [nthLoop (codeOf Tryz.f113) 0] Tryz.func113 ty_ok .nil (.cons L113[0] (by kernel_rfl) L113_3 .nil)
def F114 (a0 : D52) : Option (List UInt8 × Unit) :=
 (Option.bind (F113 a0.1 (1 : Int)) fun y0 =>
 (cond (a0.1 == (0 : Int))
 (some (y0.1, ()))
 (cond (a0.1 == (1 : Int))
 (Option.bind (F113 a0.2.1 (1 : Int)) fun y2 =>
 (gd (decide (((List.length y0.1) + (List.length y2.1)) ≤ 9223372036854775807))
 (some ((y0.1 ++ y2.1), ()))))
 (cond (a0.1 == (2 : Int))
 (Option.bind (F113 (IntKind.wrap IntKind.i64 (a0.2.1 + (4611686018427387904 : Int))) (8 : Int)) fun y3 =>
 (gd (decide (((List.length y0.1) + (List.length y3.1)) ≤ 9223372036854775807))
 (some ((y0.1 ++ y3.1), ()))))
 (Option.bind (F113 (((List.length a0.2.2.1) : Nat) : Int) (2 : Int)) fun y4 =>
 (gd (decide (((List.length y0.1) + (List.length y4.1)) ≤ 9223372036854775807))
 (gd (decide (((List.length (y0.1 ++ y4.1)) + (List.length a0.2.2.1)) ≤ 9223372036854775807))
 (some (((y0.1 ++ y4.1) ++ a0.2.2.1), ())))))))))
def C114 : Fun := ⟨[(.ro Y52)], [(.str, .z)], fun z => F114 z.1⟩
def E114 : Env := ⟨36, tyTab tys, oneTab ones, fnTab [(113, C113)], false, [], [(9, [1, 3], []), (100000, [1, 3], []), (99999, [2], [])], none, [], []⟩
def L114 : List (LoopS (List UInt8 × Unit)) := []
theorem C114_ok : QuietOk Tryz.prog 114 C114 := tQ E114 L114 [] Tryz.func114 ty_ok (.cons C113_ok .nil) .nil
def F75_R3 (e0_0 : List UInt8 × D52 × Unit → Option (D52 × Unit)) (rec : List (D112) × List UInt8 × Int × D52 × Unit → Option (D52 × Unit)) (x2 : List (D112) × List UInt8 × Int × D52 × Unit) : Option (D52 × Unit) :=
 (cond (decide (x2.2.2.1 < (((List.length x2.1) : Nat) : Int)))
 (gd (decide ((0 : Int) ≤ x2.2.2.1))
 (Option.bind x2.1[(Int.toNat x2.2.2.1)]? fun y4 =>
 (Option.bind (F113 (((List.length y4.1) : Nat) : Int) (1 : Int)) fun y5 =>
 (gd (decide ((0 : Int) ≤ x2.2.2.1))
 (Option.bind x2.1[(Int.toNat x2.2.2.1)]? fun y6 =>
 (gd (decide (((List.length y5.1) + (List.length y6.1)) ≤ 9223372036854775807))
 (gd (decide ((0 : Int) ≤ x2.2.2.1))
 (Option.bind x2.1[(Int.toNat x2.2.2.1)]? fun y7 =>
 (Option.bind (F114 y7.2.1) fun y8 =>
 (gd (decide (((List.length (y5.1 ++ y6.1)) + (List.length y8.1)) ≤ 9223372036854775807))
 (gd (decide (((List.length x2.2.1) + (List.length ((y5.1 ++ y6.1) ++ y8.1))) ≤ 9223372036854775807))
 (rec (x2.1, (x2.2.1 ++ ((y5.1 ++ y6.1) ++ y8.1)), (IntKind.wrap IntKind.i64 (x2.2.2.1 + (1 : Int))), x2.2.2.2.1, ())))))))))))))
 (e0_0 (x2.2.1, x2.2.2.2.1, ())))
def F75 (a0 : List (D112)) : Option (D52 × Unit) :=
 (iter (F75_R3
 (fun y9 =>
 (some (((5 : Int), ((0 : Int), (y9.1, ()))), ())))) fuel (a0, [], (0 : Int), ((0 : Int), ((0 : Int), ([], ()))), ()))
def C75 : Fun := ⟨[(.ro (.slice Y112))], [(Y52, .z)], fun z => F75 z.1⟩
def E75 : Env := ⟨35, tyTab tys, oneTab ones, fnTab [(113, C113), (114, C114)], false, [], [(3, [0, 2, 3, 4], []), (5, [0, 2, 3, 4], []), (6, [2, 3], []), (100000, [2, 3], []), (100001, [0, 2, 3, 4], []), (99999, [2], [])], none, [], []⟩
def L75 : List (LoopS (D52 × Unit)) := [⟨3, ⟨[(0, (.pv (.slice Y112))), (2, (.ptr 16 [])), (3, (.pv .str)), (4, (.pv (.int .i64)))], [(16, (.data true Y52 .z))]⟩, fun κ => F75_R3 (fun y => κ.exit 0 (SSh.mk' ⟨[(2, (.ptr 16 [])), (3, (.pv .str))], [(16, (.data true Y52 .z))]⟩ y))⟩]
theorem L75_3 : RoundEq E75 L75 L75[0] (nthLoop (codeOf Tryz.f75) 0) := fun κ N x => by kernel_rfl
theorem C75_ok : QuietOk Tryz.prog 75 C75 := tQ E75 L75 [nthLoop (codeOf Tryz.f75) 0] Tryz.func75 ty_ok (.cons C113_ok (.cons C114_ok .nil)) (.cons L75[0] (by kernel_rfl) L75_3 .nil)
def F47_R10 (e2_0 : List (List UInt8) × List (D112) × Int × Bool × D52 × List (D112) × Unit → Option (D52 × Unit)) (rec : List (List UInt8) × List (D112) × Int × Bool × Int × D52 × List (D112) × Unit → Option (D52 × Unit)) (x10 : List (List UInt8) × List (D112) × Int × Bool × Int × D52 × List (D112) × Unit) : Option (D52 × Unit) :=
 (cond (decide (x10.2.2.2.2.1 < (((List.length x10.1) : Nat) : Int)))
 (cond x10.2.2.2.1
 (rec (x10.1, x10.2.1, x10.2.2.1, true, (IntKind.wrap IntKind.i64 (x10.2.2.2.2.1 + (1 : Int))), x10.2.2.2.2.2.1, x10.2.2.2.2.2.2.1, ()))
 (gd (decide ((0 : Int) ≤ x10.2.2.2.2.1))
 (Option.bind x10.1[(Int.toNat x10.2.2.2.2.1)]? fun y12 =>
 (gd (decide ((0 : Int) ≤ x10.2.2.1))
 (Option.bind x10.2.1[(Int.toNat x10.2.2.1)]? fun y13 =>
 (rec (x10.1, x10.2.1, x10.2.2.1, (y12 == y13.1), (IntKind.wrap IntKind.i64 (x10.2.2.2.2.1 + (1 : Int))), x10.2.2.2.2.2.1, x10.2.2.2.2.2.2.1, ())))))))
 (e2_0 (x10.1, x10.2.1, x10.2.2.1, x10.2.2.2.1, x10.2.2.2.2.2.1, x10.2.2.2.2.2.2.1, ())))
def F47_R6 (e0_0 : D52 × List (D112) × Unit → Option (D52 × Unit)) (rec : List (List UInt8) × List (D112) × Int × D52 × List (D112) × Unit → Option (D52 × Unit)) (x4 : List (List UInt8) × List (D112) × Int × D52 × List (D112) × Unit) : Option (D52 × Unit) :=
 (cond (decide (x4.2.2.1 < (((List.length x4.2.1) : Nat) : Int)))
 (let j16 : List (List UInt8) × List (D112) × Int × D52 × List (D112) × Unit → Option (D52 × Unit) := fun (y17 : List (List UInt8) × List (D112) × Int × D52 × List (D112) × Unit) =>
 (rec (y17.1, y17.2.1, (IntKind.wrap IntKind.i64 (y17.2.2.1 + (1 : Int))), y17.2.2.2.1, y17.2.2.2.2.1, ()))
 (gd (decide ((0 : Int) ≤ x4.2.2.1))
 (Option.bind x4.2.1[(Int.toNat x4.2.2.1)]? fun y7 =>
 (iter (F47_R10
 (fun y14 =>
 (cond y14.2.2.2.1
 (gd (decide ((0 : Int) ≤ y14.2.2.1))
 (Option.bind y14.2.1[(Int.toNat y14.2.2.1)]? fun y15 =>
 (gd (decide (((List.length y14.2.2.2.2.2.1) + (List.length [y15])) ≤ lim))
 (j16 (y14.1, y14.2.1, y14.2.2.1, y14.2.2.2.2.1, (y14.2.2.2.2.2.1 ++ [y15]), ())))))
 (j16 (y14.1, y14.2.1, y14.2.2.1, y14.2.2.2.2.1, y14.2.2.2.2.2.1, ()))))) fuel (x4.1, x4.2.1, x4.2.2.1, (y7.1 == [(105 : UInt8), (100 : UInt8)]), (0 : Int), x4.2.2.2.1, x4.2.2.2.2.1, ())))))
 (e0_0 (x4.2.2.2.1, x4.2.2.2.2.1, ())))
def F47 (a0 : D52) (a1 : List (List UInt8)) : Option (D52 × Unit) :=
 (cond ((((List.length a1) : Nat) : Int) == (0 : Int))
 (some (a0, ()))
 (Option.bind (F74 a0.2.2.1) fun y1 =>
 (iter (F47_R6
 (fun y18 =>
 (Option.bind (F75 y18.2.1) fun y19 =>
 (some (y19.1, ()))))) fuel (a1, y1.1, (0 : Int), ((0 : Int), ((0 : Int), ([], ()))), [], ()))))
def C47 : Fun := ⟨[(.ro Y52), (.ro (.slice .str))], [(Y52, .z)], fun z => F47 z.1 z.2.1⟩
def E47 : Env := ⟨63, tyTab tys, oneTab ones, fnTab [(74, C74), (75, C75)], false, [], [(3, [1, 2, 4], []), (6, [1, 4, 5, 7, 8], []), (7, [1, 4, 5, 7, 8], []), (8, [1, 4, 5, 7, 8], []), (10, [1, 4, 5, 7, 8, 9, 10], []), (12, [1, 4, 5, 7, 8, 9, 10], []), (13, [1, 4, 5, 7, 8, 9], []), (15, [4, 7], []), (100000, [4, 7], []), (100001, [1, 4, 5, 7, 8], []), (100002, [1, 4, 5, 7, 8, 9], []), (100003, [1, 4, 5, 7, 8, 9, 10], []), (99999, [4], [])], none, [], []⟩
def L47 : List (LoopS (D52 × Unit)) := [⟨10, ⟨[(1, (.pv (.slice .str))), (4, (.ptr 32 [])), (5, (.pv (.slice Y112))), (7, (.ref (.slice Y112) 168 [])), (8, (.pv (.int .i64))), (9, (.pv .bool)), (10, (.pv (.int .i64)))], [(32, (.data true Y52 .z)), (168, (.data false (.slice Y112) (.own .z)))]⟩, fun κ => F47_R10 (fun y => κ.exit 2 (SSh.mk' ⟨[(1, (.pv (.slice .str))), (4, (.ptr 32 [])), (5, (.pv (.slice Y112))), (7, (.ref (.slice Y112) 168 [])), (8, (.pv (.int .i64))), (9, (.pv .bool))], [(32, (.data true Y52 .z)), (168, (.data false (.slice Y112) (.own .z)))]⟩ y))⟩,
  ⟨6, ⟨[(1, (.pv (.slice .str))), (4, (.ptr 32 [])), (5, (.pv (.slice Y112))), (7, (.ref (.slice Y112) 168 [])), (8, (.pv (.int .i64)))], [(32, (.data true Y52 .z)), (168, (.data false (.slice Y112) (.own .z)))]⟩, fun κ => F47_R6 (fun y => κ.exit 0 (SSh.mk' ⟨[(4, (.ptr 32 [])), (7, (.ref (.slice Y112) 168 []))], [(32, (.data true Y52 .z)), (168, (.data false (.slice Y112) (.own .z)))]⟩ y))⟩]
theorem L47_10 : RoundEq E47 L47 L47[0] (nthLoop (codeOf Tryz.f47) 1) := fun κ N x => by kernel_rfl
theorem L47_6 : RoundEq E47 L47 L47[1] (nthLoop (codeOf Tryz.f47) 0) := fun κ N x => by kernel_rfl
theorem C47_ok : QuietOk Tryz.prog 47 C47 := tQ E47 L47 [nthLoop (codeOf Tryz.f47) 0, nthLoop (codeOf Tryz.f47) 1] Tryz.func47 ty_ok (.cons C74_ok (.cons C75_ok .nil)) (.cons L47[1] (by kernel_rfl) L47_6 (.cons L47[0] (by kernel_rfl) L47_10 .nil))
def F21_R3 (e0_0 : D27 × List (D52) × Unit → Option (List (D52) × Unit)) (rec : List (D52) × Int × D27 × List (D52) × Unit → Option (List (D52) × Unit)) (x2 : List (D52) × Int × D27 × List (D52) × Unit) : Option (List (D52) × Unit) :=
 (cond (decide (x2.2.1 < (((List.length x2.1) : Nat) : Int)))
 (let j8 : List (D52) × Int × D27 × List (D52) × Unit → Option (List (D52) × Unit) := fun (y9 : List (D52) × Int × D27 × List (D52) × Unit) =>
 (rec (y9.1, (IntKind.wrap IntKind.i64 (y9.2.1 + (1 : Int))), y9.2.2.1, y9.2.2.2.1, ()))
 (gd (decide ((0 : Int) ≤ x2.2.1))
 (Option.bind x2.1[(Int.toNat x2.2.1)]? fun y5 =>
 (Option.bind (F45 x2.2.2.1.1 y5) fun y6 =>
 (cond y6.1
 (gd (decide ((0 : Int) ≤ x2.2.1))
 (Option.bind x2.1[(Int.toNat x2.2.1)]? fun y7 =>
 (gd (decide (((List.length x2.2.2.2.1) + (List.length [y7])) ≤ lim))
 (j8 (x2.1, x2.2.1, x2.2.2.1, (x2.2.2.2.1 ++ [y7]), ())))))
 (j8 (x2.1, x2.2.1, x2.2.2.1, x2.2.2.2.1, ())))))))
 (e0_0 (x2.2.2.1, x2.2.2.2.1, ())))
def F21_R10 (e2_0 : List (D52) × Unit → Option (List (D52) × Unit)) (rec : Int × D27 × List (D52) × List (D52) × Unit → Option (List (D52) × Unit)) (x14 : Int × D27 × List (D52) × List (D52) × Unit) : Option (List (D52) × Unit) :=
 (let j16 : Int × D27 × List (D52) × List (D52) × Unit → Option (List (D52) × Unit) := fun (y17 : Int × D27 × List (D52) × List (D52) × Unit) =>
 (gd (decide ((0 : Int) ≤ y17.1))
 (gd (decide (y17.1 < (((List.length y17.2.2.1) : Nat) : Int)))
 (Option.bind y17.2.2.1[(Int.toNat y17.1)]? fun y18 =>
 (Option.bind (F47 y18 y17.2.1.2.2.2.2.1) fun y19 =>
 (gd (decide (((List.length y17.2.2.2.1) + (List.length [y19.1])) ≤ lim))
 (rec ((IntKind.wrap IntKind.i64 (y17.1 + (1 : Int))), y17.2.1, y17.2.2.1, (y17.2.2.2.1 ++ [y19.1]), ())))))))
 (cond (decide (x14.1 < (((List.length x14.2.2.1) : Nat) : Int)))
 (cond (x14.2.1.2.2.2.1 == (0 : Int))
 (j16 (x14.1, x14.2.1, x14.2.2.1, x14.2.2.2.1, ()))
 (cond (decide ((((List.length x14.2.2.2.1) : Nat) : Int) < x14.2.1.2.2.2.1))
 (j16 (x14.1, x14.2.1, x14.2.2.1, x14.2.2.2.1, ()))
 (e2_0 (x14.2.2.2.1, ()))))
 (e2_0 (x14.2.2.2.1, ()))))
def F21 (a0 : D27) (a1 : List (D52)) : Option (List (D52) × Unit) :=
 (iter (F21_R3
 (fun y10 =>
 (Option.bind (F46 y10.2.1 y10.1.2.1) fun y11 =>
 (iter (F21_R10
 (fun y20 =>
 (some (y20.1, ())))) fuel (y10.1.2.2.1, y10.1, y11.1, [], ()))))) fuel (a1, (0 : Int), a0, [], ()))
def C21 : Fun := ⟨[(.ro Y27), (.ro (.slice Y52))], [((.slice Y52), (.own .z))], fun z => F21 z.1 z.2.1⟩
def E21 : Env := ⟨66, tyTab tys, oneTab ones, fnTab [(45, C45), (46, C46), (47, C47)], true, [], [(3, [1, 2, 5, 6], []), (4, [1, 2, 5, 6], []), (5, [1, 2, 5, 6], []), (7, [2, 5], []), (10, [2, 5, 7, 8], []), (12, [2, 5, 7, 8], []), (13, [7], []), (100000, [2, 5], []), (100001, [1, 2, 5, 6], []), (100002, [7], []), (100003, [2, 5, 7, 8], []), (99999, [4], [])], none, [], []⟩
def L21 : List (LoopS (List (D52) × Unit)) := [⟨3, ⟨[(1, (.pv (.slice Y52))), (2, (.ptr 16 [])), (5, (.ref (.slice Y52) 72 [])), (6, (.pv (.int .i64)))], [(16, (.data true Y27 .z)), (72, (.data false (.slice Y52) (.own .z)))]⟩, fun κ => F21_R3 (fun y => κ.exit 0 (SSh.mk' ⟨[(2, (.ptr 16 [])), (5, (.ref (.slice Y52) 72 []))], [(16, (.data true Y27 .z)), (72, (.data false (.slice Y52) (.own .z)))]⟩ y))⟩,
  ⟨10, ⟨[(2, (.ptr 16 [])), (5, (.ref (.slice Y52) 264 [])), (7, (.ref (.slice Y52) 272 [])), (8, (.pv (.int .i64)))], [(16, (.data true Y27 .z)), (264, (.data false (.slice Y52) (.own .z))), (272, (.data false (.slice Y52) (.own .z)))]⟩, fun κ => F21_R10 (fun y => κ.exit 2 (SSh.mk' ⟨[(7, (.ref (.slice Y52) 272 []))], [(272, (.data false (.slice Y52) (.own .z)))]⟩ y))⟩]
theorem L21_10 : RoundEq E21 L21 L21[1] (nthLoop (codeOf Tryz.f21) 1) := fun κ N x => by kernel_rfl
theorem L21_3 : RoundEq E21 L21 L21[0] (nthLoop (codeOf Tryz.f21) 0) := fun κ N x => by kernel_rfl
theorem C21_ok : FreshOk Tryz.prog 21 C21 := tF E21 L21 [nthLoop (codeOf Tryz.f21) 0, nthLoop (codeOf Tryz.f21) 1] Tryz.func21 ty_ok (.cons C45_ok (.consFr C46_ok (.cons C47_ok .nil))) (.cons L21[0] (by kernel_rfl) L21_3 (.cons L21[1] (by kernel_rfl) L21_10 .nil))
def F6 (a0 : D27) (a1 : List (D52)) : Option (List (D52) × Int × Unit) :=
 (cond (decide ((((List.length a1) : Nat) : Int) > (4096 : Int)))
 (some ([], ((2 : Int), ())))
 (Option.bind (F19 a0) fun y2 =>
 (cond (!y2.1)
 (some ([], ((1 : Int), ())))
 (Option.bind (F20 a1) fun y3 =>
 (cond (!y3.1)
 (some ([], ((1 : Int), ())))
 (Option.bind (F21 a0 a1) fun y4 =>
 (some (y4.1, ((0 : Int), ())))))))))
def C6 : Fun := ⟨[(.ro Y27), (.ro (.slice Y52))], [((.slice Y52), (.own .z)), ((.int .i64), .z)], fun z => F6 z.1 z.2.1⟩
def E6 : Env := ⟨22, tyTab tys, oneTab ones, fnTab [(19, C19), (20, C20), (21, C21)], true, [], [(3, [1, 2], []), (5, [1, 2], []), (99999, [4, 5], [])], none, [], []⟩
def L6 : List (LoopS (List (D52) × Int × Unit)) := []
theorem C6_ok : FreshOk Tryz.prog 6 C6 := tF E6 L6 [] Tryz.func6 ty_ok (.cons C19_ok (.cons C20_ok (.consFr C21_ok .nil))) .nil
def F25 (a0 : D52) : Option (D52 × Unit) :=
 (some ((a0.1, (a0.2.1, (a0.2.2.1, ()))), ()))
def C25 : Fun := ⟨[(.ro Y52)], [(Y52, .z)], fun z => F25 z.1⟩
def E25 : Env := ⟨14, tyTab tys, oneTab ones, fnTab [], true, [], [(99999, [2], [])], none, [], []⟩
def L25 : List (LoopS (D52 × Unit)) := []
theorem C25_ok : QuietOk Tryz.prog 25 C25 := tQ E25 L25 [] Tryz.func25 ty_ok .nil .nil
def F153 (a0 : D102) : Option (D102 × Unit) :=
 (Option.bind (F25 a0.2.2.1) fun y0 =>
 (some ((a0.1, (a0.2.1, (y0.1, ()))), ())))
def C153 : Fun := ⟨[(.ro Y102)], [(Y102, .z)], fun z => F153 z.1⟩
def E153 : Env := ⟨15, tyTab tys, oneTab ones, fnTab [(25, C25)], true, [], [(99999, [2], [])], none, [], []⟩
def L153 : List (LoopS (D102 × Unit)) := []
theorem C153_ok : QuietOk Tryz.prog 153 C153 := tQ E153 L153 [] Tryz.func153 ty_ok (.cons C25_ok .nil) .nil
def F115_R3 (e0_0 : List (D102) × Unit → Option D96) (rec : List (D102) × Int × List (D102) × Unit → Option D96) (x2 : List (D102) × Int × List (D102) × Unit) : Option D96 :=
 (cond (decide (x2.2.1 < (((List.length x2.1) : Nat) : Int)))
 (gd (decide ((0 : Int) ≤ x2.2.1))
 (Option.bind x2.1[(Int.toNat x2.2.1)]? fun y4 =>
 (Option.bind (F153 y4) fun y5 =>
 (gd (decide ((0 : Int) ≤ x2.2.1))
 (gd (decide (x2.2.1 < (((List.length x2.2.2.1) : Nat) : Int)))
 (Option.bind x2.2.2.1[(Int.toNat x2.2.1)]? fun y6 =>
 (rec (x2.1, (IntKind.wrap IntKind.i64 (x2.2.1 + (1 : Int))), (List.set x2.2.2.1 (Int.toNat x2.2.1) y5.1), ()))))))))
 (e0_0 (x2.2.2.1, ())))
def F115 (a0 : List (D102)) : Option D96 :=
 (gd (decide ((((List.length a0) : Nat) : Int) ≤ ((4294967296 : Nat) : Int)))
 (gd (decide ((((List.length a0) : Nat) : Int) ≤ (((Int.toNat (((List.length a0) : Nat) : Int)) : Nat) : Int)))
 (iter (F115_R3
 (fun y7 =>
 (some (y7.1, ())))) fuel (a0, (0 : Int), (List.replicate (Int.toNat (((List.length a0) : Nat) : Int)) ((0 : Int), ([], (((0 : Int), ((0 : Int), ([], ()))), ())))), ()))))
def C115 : Fun := ⟨[(.ro (.slice Y102))], [((.slice Y102), (.own .z))], fun z => F115 z.1⟩
def E115 : Env := ⟨23, tyTab tys, oneTab ones, fnTab [(153, C153)], true, [], [(3, [0, 3, 4], []), (5, [0, 3, 4], []), (6, [3], []), (100000, [3], []), (100001, [0, 3, 4], []), (99999, [2], [])], none, [], []⟩
def L115 : List (LoopS D96) := [⟨3, ⟨[(0, (.pv (.slice Y102))), (3, (.ref (.slice Y102) 56 [])), (4, (.pv (.int .i64)))], [(56, (.data false (.slice Y102) (.own .z)))]⟩, fun κ => F115_R3 (fun y => κ.exit 0 (SSh.mk' ⟨[(3, (.ref (.slice Y102) 56 []))], [(56, (.data false (.slice Y102) (.own .z)))]⟩ y))⟩]
theorem L115_3 : RoundEq E115 L115 L115[0] (nthLoop (codeOf Tryz.f115) 0) := fun κ N x => by kernel_rfl
theorem C115_ok : FreshOk Tryz.prog 115 C115 := tF E115 L115 [nthLoop (codeOf Tryz.f115) 0] Tryz.func115 ty_ok (.cons C153_ok .nil) (.cons L115[0] (by kernel_rfl) L115_3 .nil)
def F76 (a0 : D96) : Option (D96 × Unit) :=
 (Option.bind (F115 a0.1) fun y0 =>
 (some ((y0.1, ()), ())))
def C76 : Fun := ⟨[(.ro Y96)], [(Y96, (.pr (.own .z) .z))], fun z => F76 z.1⟩
def E76 : Env := ⟨9, tyTab tys, oneTab ones, fnTab [(115, C115)], true, [], [(99999, [2], [])], none, [], []⟩
def L76 : List (LoopS (D96 × Unit)) := []
theorem C76_ok : FreshOk Tryz.prog 76 C76 := tF E76 L76 [] Tryz.func76 ty_ok (.consFr C115_ok .nil) .nil
def F48_R3 (e0_0 : List (D96) × Unit → Option D23) (rec : List (D96) × Int × List (D96) × Unit → Option D23) (x2 : List (D96) × Int × List (D96) × Unit) : Option D23 :=
 (cond (decide (x2.2.1 < (((List.length x2.1) : Nat) : Int)))
 (gd (decide ((0 : Int) ≤ x2.2.1))
 (Option.bind x2.1[(Int.toNat x2.2.1)]? fun y4 =>
 (Option.bind (F76 y4) fun y5 =>
 (gd (decide ((0 : Int) ≤ x2.2.1))
 (gd (decide (x2.2.1 < (((List.length x2.2.2.1) : Nat) : Int)))
 (Option.bind x2.2.2.1[(Int.toNat x2.2.1)]? fun y6 =>
 (rec (x2.1, (IntKind.wrap IntKind.i64 (x2.2.1 + (1 : Int))), (List.set x2.2.2.1 (Int.toNat x2.2.1) y5.1), ()))))))))
 (e0_0 (x2.2.2.1, ())))
def F48 (a0 : List (D96)) : Option D23 :=
 (gd (decide ((((List.length a0) : Nat) : Int) ≤ ((4294967296 : Nat) : Int)))
 (gd (decide ((((List.length a0) : Nat) : Int) ≤ (((Int.toNat (((List.length a0) : Nat) : Int)) : Nat) : Int)))
 (iter (F48_R3
 (fun y7 =>
 (some (y7.1, ())))) fuel (a0, (0 : Int), (List.replicate (Int.toNat (((List.length a0) : Nat) : Int)) ([], ())), ()))))
def C48 : Fun := ⟨[(.ro (.slice Y96))], [((.slice Y96), (.own (.pr (.own .z) .z)))], fun z => F48 z.1⟩
def E48 : Env := ⟨23, tyTab tys, oneTab ones, fnTab [(76, C76)], true, [], [(3, [0, 3, 4], []), (5, [0, 3, 4], []), (6, [3], []), (100000, [3], []), (100001, [0, 3, 4], []), (99999, [2], [])], none, [], []⟩
def L48 : List (LoopS D23) := [⟨3, ⟨[(0, (.pv (.slice Y96))), (3, (.ref (.slice Y96) 56 [])), (4, (.pv (.int .i64)))], [(56, (.data false (.slice Y96) (.own (.pr (.own .z) .z))))]⟩, fun κ => F48_R3 (fun y => κ.exit 0 (SSh.mk' ⟨[(3, (.ref (.slice Y96) 56 []))], [(56, (.data false (.slice Y96) (.own (.pr (.own .z) .z))))]⟩ y))⟩]
theorem L48_3 : RoundEq E48 L48 L48[0] (nthLoop (codeOf Tryz.f48) 0) := fun κ N x => by kernel_rfl
theorem C48_ok : FreshOk Tryz.prog 48 C48 := tF E48 L48 [nthLoop (codeOf Tryz.f48) 0] Tryz.func48 ty_ok (.consFr C76_ok .nil) (.cons L48[0] (by kernel_rfl) L48_3 .nil)
def F22 (a0 : D23) : Option (D23 × Unit) :=
 (Option.bind (F48 a0.1) fun y0 =>
 (some ((y0.1, ()), ())))
def C22 : Fun := ⟨[(.ro Y23)], [(Y23, (.pr (.own (.pr (.own .z) .z)) .z))], fun z => F22 z.1⟩
def E22 : Env := ⟨9, tyTab tys, oneTab ones, fnTab [(48, C48)], true, [], [(99999, [2], [])], none, [], []⟩
def L22 : List (LoopS (D23 × Unit)) := []
theorem C22_ok : FreshOk Tryz.prog 22 C22 := tF E22 L22 [] Tryz.func22 ty_ok (.consFr C48_ok .nil) .nil
def F49 (a0 : D72) : Option (D72 × Unit) :=
 (some ((a0.1, (a0.2.1, ())), ()))
def C49 : Fun := ⟨[(.ro Y72)], [(Y72, .z)], fun z => F49 z.1⟩
def E49 : Env := ⟨11, tyTab tys, oneTab ones, fnTab [], true, [], [(99999, [2], [])], none, [], []⟩
def L49 : List (LoopS (D72 × Unit)) := []
theorem C49_ok : QuietOk Tryz.prog 49 C49 := tQ E49 L49 [] Tryz.func49 ty_ok .nil .nil
def F23_R3 (e0_0 : List (D72) × Unit → Option (List (D72) × Unit)) (rec : List (D72) × Int × List (D72) × Unit → Option (List (D72) × Unit)) (x2 : List (D72) × Int × List (D72) × Unit) : Option (List (D72) × Unit) :=
 (cond (decide (x2.2.1 < (((List.length x2.1) : Nat) : Int)))
 (gd (decide ((0 : Int) ≤ x2.2.1))
 (Option.bind x2.1[(Int.toNat x2.2.1)]? fun y4 =>
 (Option.bind (F49 y4) fun y5 =>
 (gd (decide ((0 : Int) ≤ x2.2.1))
 (gd (decide (x2.2.1 < (((List.length x2.2.2.1) : Nat) : Int)))
 (Option.bind x2.2.2.1[(Int.toNat x2.2.1)]? fun y6 =>
 (rec (x2.1, (IntKind.wrap IntKind.i64 (x2.2.1 + (1 : Int))), (List.set x2.2.2.1 (Int.toNat x2.2.1) y5.1), ()))))))))
 (e0_0 (x2.2.2.1, ())))
def F23 (a0 : List (D72)) : Option (List (D72) × Unit) :=
 (gd (decide ((((List.length a0) : Nat) : Int) ≤ ((4294967296 : Nat) : Int)))
 (gd (decide ((((List.length a0) : Nat) : Int) ≤ (((Int.toNat (((List.length a0) : Nat) : Int)) : Nat) : Int)))
 (iter (F23_R3
 (fun y7 =>
 (some (y7.1, ())))) fuel (a0, (0 : Int), (List.replicate (Int.toNat (((List.length a0) : Nat) : Int)) ([], (false, ()))), ()))))
def C23 : Fun := ⟨[(.ro (.slice Y72))], [((.slice Y72), (.own .z))], fun z => F23 z.1⟩
def E23 : Env := ⟨23, tyTab tys, oneTab ones, fnTab [(49, C49)], true, [], [(3, [0, 3, 4], []), (5, [0, 3, 4], []), (6, [3], []), (100000, [3], []), (100001, [0, 3, 4], []), (99999, [2], [])], none, [], []⟩
def L23 : List (LoopS (List (D72) × Unit)) := [⟨3, ⟨[(0, (.pv (.slice Y72))), (3, (.ref (.slice Y72) 56 [])), (4, (.pv (.int .i64)))], [(56, (.data false (.slice Y72) (.own .z)))]⟩, fun κ => F23_R3 (fun y => κ.exit 0 (SSh.mk' ⟨[(3, (.ref (.slice Y72) 56 []))], [(56, (.data false (.slice Y72) (.own .z)))]⟩ y))⟩]
theorem L23_3 : RoundEq E23 L23 L23[0] (nthLoop (codeOf Tryz.f23) 0) := fun κ N x => by kernel_rfl
theorem C23_ok : FreshOk Tryz.prog 23 C23 := tF E23 L23 [nthLoop (codeOf Tryz.f23) 0] Tryz.func23 ty_ok (.cons C49_ok .nil) (.cons L23[0] (by kernel_rfl) L23_3 .nil)
def F24_R3 (e0_0 : List (List UInt8) × Unit → Option (List (List UInt8) × Unit)) (rec : List (List UInt8) × Int × List (List UInt8) × Unit → Option (List (List UInt8) × Unit)) (x2 : List (List UInt8) × Int × List (List UInt8) × Unit) : Option (List (List UInt8) × Unit) :=
 (cond (decide (x2.2.1 < (((List.length x2.1) : Nat) : Int)))
 (gd (decide ((0 : Int) ≤ x2.2.1))
 (Option.bind x2.1[(Int.toNat x2.2.1)]? fun y4 =>
 (gd (decide ((0 : Int) ≤ x2.2.1))
 (gd (decide (x2.2.1 < (((List.length x2.2.2.1) : Nat) : Int)))
 (Option.bind x2.2.2.1[(Int.toNat x2.2.1)]? fun y5 =>
 (rec (x2.1, (IntKind.wrap IntKind.i64 (x2.2.1 + (1 : Int))), (List.set x2.2.2.1 (Int.toNat x2.2.1) y4), ())))))))
 (e0_0 (x2.2.2.1, ())))
def F24 (a0 : List (List UInt8)) : Option (List (List UInt8) × Unit) :=
 (gd (decide ((((List.length a0) : Nat) : Int) ≤ ((4294967296 : Nat) : Int)))
 (gd (decide ((((List.length a0) : Nat) : Int) ≤ (((Int.toNat (((List.length a0) : Nat) : Int)) : Nat) : Int)))
 (iter (F24_R3
 (fun y6 =>
 (some (y6.1, ())))) fuel (a0, (0 : Int), (List.replicate (Int.toNat (((List.length a0) : Nat) : Int)) []), ()))))
def C24 : Fun := ⟨[(.ro (.slice .str))], [((.slice .str), (.own .z))], fun z => F24 z.1⟩
def E24 : Env := ⟨22, tyTab tys, oneTab ones, fnTab [], true, [], [(3, [0, 3, 4], []), (5, [0, 3, 4], []), (6, [3], []), (100000, [3], []), (100001, [0, 3, 4], []), (99999, [2], [])], none, [], []⟩
def L24 : List (LoopS (List (List UInt8) × Unit)) := [⟨3, ⟨[(0, (.pv (.slice .str))), (3, (.ref (.slice .str) 56 [])), (4, (.pv (.int .i64)))], [(56, (.data false (.slice .str) (.own .z)))]⟩, fun κ => F24_R3 (fun y => κ.exit 0 (SSh.mk' ⟨[(3, (.ref (.slice .str) 56 []))], [(56, (.data false (.slice .str) (.own .z)))]⟩ y))⟩]
theorem L24_3 : RoundEq E24 L24 L24[0] (nthLoop (codeOf Tryz.f24) 0) := fun κ N x => by kernel_rfl
theorem C24_ok : FreshOk Tryz.prog 24 C24 := tF E24 L24 [nthLoop (codeOf Tryz.f24) 0] Tryz.func24 ty_ok .nil (.cons L24[0] (by kernel_rfl) L24_3 .nil)
def F7 (a0 : D27) : Option (D27 × Unit) :=
 (Option.bind (F22 a0.1) fun y0 =>
 (Option.bind (F23 a0.2.1) fun y1 =>
 (Option.bind (F24 a0.2.2.2.2.1) fun y2 =>
 (some ((y0.1, (y1.1, (a0.2.2.1, (a0.2.2.2.1, (y2.1, (a0.2.2.2.2.2.1, ())))))), ())))))
def C7 : Fun := ⟨[(.ro Y27)], [(Y27, (.pr (.pr (.own (.pr (.own .z) .z)) .z) (.pr (.own .z) (.pr .z (.pr .z (.pr (.own .z) .z))))))], fun z => F7 z.1⟩
def E7 : Env := ⟨26, tyTab tys, oneTab ones, fnTab [(22, C22), (23, C23), (24, C24)], true, [], [(99999, [2], [])], none, [], []⟩
def L7 : List (LoopS (D27 × Unit)) := []
theorem C7_ok : FreshOk Tryz.prog 7 C7 := tF E7 L7 [] Tryz.func7 ty_ok (.consFr C22_ok (.consFr C23_ok (.consFr C24_ok .nil))) .nil
def F8_R3 (e0_0 : List (D52) × Unit → Option (List (D52) × Unit)) (rec : List (D52) × Int × List (D52) × Unit → Option (List (D52) × Unit)) (x2 : List (D52) × Int × List (D52) × Unit) : Option (List (D52) × Unit) :=
 (cond (decide (x2.2.1 < (((List.length x2.1) : Nat) : Int)))
 (gd (decide ((0 : Int) ≤ x2.2.1))
 (Option.bind x2.1[(Int.toNat x2.2.1)]? fun y4 =>
 (Option.bind (F25 y4) fun y5 =>
 (gd (decide ((0 : Int) ≤ x2.2.1))
 (gd (decide (x2.2.1 < (((List.length x2.2.2.1) : Nat) : Int)))
 (Option.bind x2.2.2.1[(Int.toNat x2.2.1)]? fun y6 =>
 (rec (x2.1, (IntKind.wrap IntKind.i64 (x2.2.1 + (1 : Int))), (List.set x2.2.2.1 (Int.toNat x2.2.1) y5.1), ()))))))))
 (e0_0 (x2.2.2.1, ())))
def F8 (a0 : List (D52)) : Option (List (D52) × Unit) :=
 (gd (decide ((((List.length a0) : Nat) : Int) ≤ ((4294967296 : Nat) : Int)))
 (gd (decide ((((List.length a0) : Nat) : Int) ≤ (((Int.toNat (((List.length a0) : Nat) : Int)) : Nat) : Int)))
 (iter (F8_R3
 (fun y7 =>
 (some (y7.1, ())))) fuel (a0, (0 : Int), (List.replicate (Int.toNat (((List.length a0) : Nat) : Int)) ((0 : Int), ((0 : Int), ([], ())))), ()))))
def C8 : Fun := ⟨[(.ro (.slice Y52))], [((.slice Y52), (.own .z))], fun z => F8 z.1⟩
def E8 : Env := ⟨23, tyTab tys, oneTab ones, fnTab [(25, C25)], true, [], [(3, [0, 3, 4], []), (5, [0, 3, 4], []), (6, [3], []), (100000, [3], []), (100001, [0, 3, 4], []), (99999, [2], [])], none, [], []⟩
def L8 : List (LoopS (List (D52) × Unit)) := [⟨3, ⟨[(0, (.pv (.slice Y52))), (3, (.ref (.slice Y52) 56 [])), (4, (.pv (.int .i64)))], [(56, (.data false (.slice Y52) (.own .z)))]⟩, fun κ => F8_R3 (fun y => κ.exit 0 (SSh.mk' ⟨[(3, (.ref (.slice Y52) 56 []))], [(56, (.data false (.slice Y52) (.own .z)))]⟩ y))⟩]
theorem L8_3 : RoundEq E8 L8 L8[0] (nthLoop (codeOf Tryz.f8) 0) := fun κ N x => by kernel_rfl
theorem C8_ok : FreshOk Tryz.prog 8 C8 := tF E8 L8 [nthLoop (codeOf Tryz.f8) 0] Tryz.func8 ty_ok (.cons C25_ok .nil) (.cons L8[0] (by kernel_rfl) L8_3 .nil)
def F52 (a0 : Int) (a1 : Int) (a2 : Int) : Option (Bool × Unit) :=
 (cond (decide (a1 ≤ a0))
 (some ((decide (a0 ≤ a2)), ()))
 (some (false, ())))
def C52 : Fun := ⟨[(.ro (.int .i64)), (.ro (.int .i64)), (.ro (.int .i64))], [(.bool, .z)], fun z => F52 z.1 z.2.1 z.2.2.1⟩
def E52 : Env := ⟨15, tyTab tys, oneTab ones, fnTab [], false, [], [(99999, [6], [])], none, [], []⟩
def L52 : List (LoopS (Bool × Unit)) := []
theorem C52_ok : QuietOk Tryz.prog 52 C52 := tQ E52 L52 [] Tryz.func52 ty_ok .nil .nil
def F116_R2 (e0_0 : Unit → Option (Int × Unit)) (er_1 : Int × Unit → Option (Int × Unit)) (rec : List (D96) × (D96 → Option (Bool)) × Int × Int × Unit → Option (Int × Unit)) (x2 : List (D96) × (D96 → Option (Bool)) × Int × Int × Unit) : Option (Int × Unit) :=
 (cond (decide (x2.2.2.2.1 < x2.2.2.1))
 (gd (decide ((0 : Int) ≤ x2.2.2.2.1))
 (Option.bind x2.1[(Int.toNat x2.2.2.2.1)]? fun y5 =>
 (Option.bind (x2.2.1 y5) fun y6 =>
 (cond y6
 (er_1 (x2.2.2.2.1, ()))
 (rec (x2.1, x2.2.1, x2.2.2.1, (IntKind.wrap IntKind.i64 (x2.2.2.2.1 + (1 : Int))), ()))))))
 (e0_0 (())))
def F116 (a0 : List (D96)) (a1 : (D96 → Option (Bool))) : Option (Int × Unit) :=
 (iter (F116_R2
 (fun y7 =>
 (some ((-(1 : Int)), ())))
 (fun y8 =>
 (some (y8.1, ())))) fuel (a0, a1, (((List.length a0) : Nat) : Int), (0 : Int), ()))
def C116 : Fun := ⟨[(.ro (.slice Y96)), (.fn Y96 .bool)], [((.int .i64), .z)], fun z => F116 z.1 z.2.1⟩
def E116 : Env := ⟨19, tyTab tys, oneTab ones, fnTab [], false, [], [(2, [0, 1, 7, 8], []), (3, [0, 1, 7, 8], []), (6, [0, 1, 7, 8], []), (7, [], []), (100000, [], []), (100001, [0, 1, 7, 8], []), (99999, [4], [])], none, [], []⟩
def L116 : List (LoopS (Int × Unit)) := [⟨2, ⟨[(0, (.pv (.slice Y96))), (1, (.fnA Y96 .bool)), (7, (.pv (.int .i64))), (8, (.pv (.int .i64)))], []⟩, fun κ => F116_R2 (fun y => κ.exit 0 (SSh.mk' ⟨[], []⟩ y)) (fun y => κ.ret (SSh.mk' ⟨[(4, (.pv (.int .i64)))], []⟩ y))⟩]
theorem L116_2 : RoundEq E116 L116 L116[0] (nthLoop (codeOf Tryz.f116) 0) := fun κ N x => by kernel_rfl
theorem C116_ok : QuietOk Tryz.prog 116 C116 := tQ E116 L116 [nthLoop (codeOf Tryz.f116) 0] Tryz.func116 ty_ok .nil (.cons L116[0] (by kernel_rfl) L116_2 .nil)
def F77 (a0 : List (D96)) (a1 : (D96 → Option (Bool))) : Option (Bool × Unit) :=
 (Option.bind (F116 a0 a1) fun y0 =>
 (some ((decide (y0.1 ≥ (0 : Int))), ())))
def C77 : Fun := ⟨[(.ro (.slice Y96)), (.fn Y96 .bool)], [(.bool, .z)], fun z => F77 z.1 z.2.1⟩
def E77 : Env := ⟨9, tyTab tys, oneTab ones, fnTab [(116, C116)], false, [], [(99999, [4], [])], none, [], []⟩
def L77 : List (LoopS (Bool × Unit)) := []
theorem C77_ok : QuietOk Tryz.prog 77 C77 := tQ E77 L77 [] Tryz.func77 ty_ok (.cons C116_ok .nil) .nil
def F117_R2 (e0_0 : Unit → Option (Int × Unit)) (er_1 : Int × Unit → Option (Int × Unit)) (rec : List (D102) × (D102 → Option (Bool)) × Int × Int × Unit → Option (Int × Unit)) (x2 : List (D102) × (D102 → Option (Bool)) × Int × Int × Unit) : Option (Int × Unit) :=
 (cond (decide (x2.2.2.2.1 < x2.2.2.1))
 (gd (decide ((0 : Int) ≤ x2.2.2.2.1))
 (Option.bind x2.1[(Int.toNat x2.2.2.2.1)]? fun y5 =>
 (Option.bind (x2.2.1 y5) fun y6 =>
 (cond y6
 (er_1 (x2.2.2.2.1, ()))
 (rec (x2.1, x2.2.1, x2.2.2.1, (IntKind.wrap IntKind.i64 (x2.2.2.2.1 + (1 : Int))), ()))))))
 (e0_0 (())))
def F117 (a0 : List (D102)) (a1 : (D102 → Option (Bool))) : Option (Int × Unit) :=
 (iter (F117_R2
 (fun y7 =>
 (some ((-(1 : Int)), ())))
 (fun y8 =>
 (some (y8.1, ())))) fuel (a0, a1, (((List.length a0) : Nat) : Int), (0 : Int), ()))
def C117 : Fun := ⟨[(.ro (.slice Y102)), (.fn Y102 .bool)], [((.int .i64), .z)], fun z => F117 z.1 z.2.1⟩
def E117 : Env := ⟨19, tyTab tys, oneTab ones, fnTab [], false, [], [(2, [0, 1, 7, 8], []), (3, [0, 1, 7, 8], []), (6, [0, 1, 7, 8], []), (7, [], []), (100000, [], []), (100001, [0, 1, 7, 8], []), (99999, [4], [])], none, [], []⟩
def L117 : List (LoopS (Int × Unit)) := [⟨2, ⟨[(0, (.pv (.slice Y102))), (1, (.fnA Y102 .bool)), (7, (.pv (.int .i64))), (8, (.pv (.int .i64)))], []⟩, fun κ => F117_R2 (fun y => κ.exit 0 (SSh.mk' ⟨[], []⟩ y)) (fun y => κ.ret (SSh.mk' ⟨[(4, (.pv (.int .i64)))], []⟩ y))⟩]
theorem L117_2 : RoundEq E117 L117 L117[0] (nthLoop (codeOf Tryz.f117) 0) := fun κ N x => by kernel_rfl
theorem C117_ok : QuietOk Tryz.prog 117 C117 := tQ E117 L117 [nthLoop (codeOf Tryz.f117) 0] Tryz.func117 ty_ok .nil (.cons L117[0] (by kernel_rfl) L117_2 .nil)
def F79 (a0 : List (D102)) (a1 : (D102 → Option (Bool))) : Option (Bool × Unit) :=
 (Option.bind (F117 a0 a1) fun y0 =>
 (some ((decide (y0.1 ≥ (0 : Int))), ())))
def C79 : Fun := ⟨[(.ro (.slice Y102)), (.fn Y102 .bool)], [(.bool, .z)], fun z => F79 z.1 z.2.1⟩
def E79 : Env := ⟨9, tyTab tys, oneTab ones, fnTab [(117, C117)], false, [], [(99999, [4], [])], none, [], []⟩
def L79 : List (LoopS (Bool × Unit)) := []
theorem C79_ok : QuietOk Tryz.prog 79 C79 := tQ E79 L79 [] Tryz.func79 ty_ok (.cons C117_ok .nil) .nil
def F121_R2 (e0_0 : Unit → Option (Int × Unit)) (er_1 : Int × Unit → Option (Int × Unit)) (rec : List (List UInt8) × (List UInt8 → Option (Bool)) × Int × Int × Unit → Option (Int × Unit)) (x2 : List (List UInt8) × (List UInt8 → Option (Bool)) × Int × Int × Unit) : Option (Int × Unit) :=
 (cond (decide (x2.2.2.2.1 < x2.2.2.1))
 (gd (decide ((0 : Int) ≤ x2.2.2.2.1))
 (Option.bind x2.1[(Int.toNat x2.2.2.2.1)]? fun y5 =>
 (Option.bind (x2.2.1 y5) fun y6 =>
 (cond y6
 (er_1 (x2.2.2.2.1, ()))
 (rec (x2.1, x2.2.1, x2.2.2.1, (IntKind.wrap IntKind.i64 (x2.2.2.2.1 + (1 : Int))), ()))))))
 (e0_0 (())))
def F121 (a0 : List (List UInt8)) (a1 : (List UInt8 → Option (Bool))) : Option (Int × Unit) :=
 (iter (F121_R2
 (fun y7 =>
 (some ((-(1 : Int)), ())))
 (fun y8 =>
 (some (y8.1, ())))) fuel (a0, a1, (((List.length a0) : Nat) : Int), (0 : Int), ()))
def C121 : Fun := ⟨[(.ro (.slice .str)), (.fn .str .bool)], [((.int .i64), .z)], fun z => F121 z.1 z.2.1⟩
def E121 : Env := ⟨19, tyTab tys, oneTab ones, fnTab [], false, [], [(2, [0, 1, 7, 8], []), (3, [0, 1, 7, 8], []), (6, [0, 1, 7, 8], []), (7, [], []), (100000, [], []), (100001, [0, 1, 7, 8], []), (99999, [4], [])], none, [], []⟩
def L121 : List (LoopS (Int × Unit)) := [⟨2, ⟨[(0, (.pv (.slice .str))), (1, (.fnA .str .bool)), (7, (.pv (.int .i64))), (8, (.pv (.int .i64)))], []⟩, fun κ => F121_R2 (fun y => κ.exit 0 (SSh.mk' ⟨[], []⟩ y)) (fun y => κ.ret (SSh.mk' ⟨[(4, (.pv (.int .i64)))], []⟩ y))⟩]
theorem L121_2 : RoundEq E121 L121 L121[0] (nthLoop (codeOf Tryz.f121) 0) := fun κ N x => by kernel_rfl
theorem C121_ok : QuietOk Tryz.prog 121 C121 := tQ E121 L121 [nthLoop (codeOf Tryz.f121) 0] Tryz.func121 ty_ok .nil (.cons L121[0] (by kernel_rfl) L121_2 .nil)
def F85 (a0 : List (List UInt8)) (a1 : (List UInt8 → Option (Bool))) : Option (Bool × Unit) :=
 (Option.bind (F121 a0 a1) fun y0 =>
 (some ((decide (y0.1 ≥ (0 : Int))), ())))
def C85 : Fun := ⟨[(.ro (.slice .str)), (.fn .str .bool)], [(.bool, .z)], fun z => F85 z.1 z.2.1⟩
def E85 : Env := ⟨9, tyTab tys, oneTab ones, fnTab [(121, C121)], false, [], [(99999, [4], [])], none, [], []⟩
def L85 : List (LoopS (Bool × Unit)) := []
theorem C85_ok : QuietOk Tryz.prog 85 C85 := tQ E85 L85 [] Tryz.func85 ty_ok (.cons C121_ok .nil) .nil
def F211 (a0 : List UInt8) (a1 : Int) : Option (Int × Unit) :=
 (Option.bind (F215 a0 a1) fun y0 =>
 (some (y0.1, ())))
def C211 : Fun := ⟨[(.ro .str), (.ro (.int .u8))], [((.int .i64), .z)], fun z => F211 z.1 z.2.1⟩
def E211 : Env := ⟨8, tyTab tys, oneTab ones, fnTab [], false, [], [(99999, [4], [])], none, [(215, C215)], []⟩
def L211 : List (LoopS (Int × Unit)) := []
theorem C211_ok : QuietOk Tryz.prog 211 C211 := tQ E211 L211 [] Tryz.func211 ty_ok .nil .nil (hx := (.cons C215_ok .nil))
def F213 (a0 : Int) : Option (Int × Unit) :=
 (some ((IntKind.wrap IntKind.i64 (Int.tdiv (IntKind.wrap IntKind.i64 (a0 + (16 : Int))) (8 : Int))), ()))
def C213 : Fun := ⟨[(.ro (.int .i64))], [((.int .i64), .z)], fun z => F213 z.1⟩
def E213 : Env := ⟨6, tyTab tys, oneTab ones, fnTab [], false, [], [(99999, [2], [])], none, [], []⟩
def L213 : List (LoopS (Int × Unit)) := []
theorem C213_ok : QuietOk Tryz.prog 213 C213 := tQ E213 L213 [] Tryz.func213 ty_ok .nil .nil
def F207 (a0 : List UInt8) (a1 : List UInt8) : Option (Int × Unit) :=
 (cond ((((List.length a1) : Nat) : Int) == (0 : Int))
 (some ((0 : Int), ()))
 (cond (a1 == a0)
 (some ((0 : Int), ()))
 (cond ((((List.length a1) : Nat) : Int) == (1 : Int))
 (Option.bind a1[(Int.toNat (0 : Int))]? fun y1 =>
 (Option.bind (F211 a0 (((UInt8.toNat y1) : Nat) : Int)) fun y2 =>
 (some (y2.1, ()))))
 (gd (decide ((((List.length a1) : Nat) : Int) ≥ (((List.length a0) : Nat) : Int)))
 (some ((-(1 : Int)), ()))))))
def C207 : Fun := ⟨[(.ro .str), (.ro .str)], [((.int .i64), .z)], fun z => F207 z.1 z.2.1⟩
def E207 : Env := ⟨143, tyTab tys, oneTab ones, fnTab [(211, C211), (213, C213)], false, [], [(10, [0, 1, 5], []), (15, [0, 1, 5, 6, 7, 8, 9, 10], []), (16, [0, 1, 5, 6, 7, 8, 9, 10], []), (20, [0, 1, 5, 6, 7, 8, 9, 10, 11], []), (21, [0, 1, 5, 6, 7, 8, 9, 10], []), (23, [0, 1, 5, 6, 7, 8, 9, 10], []), (29, [], []), (34, [8, 13], []), (35, [], []), (100000, [0, 1, 5], []), (100001, [], []), (100002, [0, 1, 5, 6, 7, 8, 9, 10], []), (99999, [4], [])], none, [], []⟩
def L207 : List (LoopS (Int × Unit)) := []
theorem C207_ok : QuietOk Tryz.prog 207 C207 := tQ E207 L207 [nthLoop (codeOf Tryz.f207) 0] Tryz.func207 ty_ok (.cons C211_ok (.cons C213_ok .nil)) (.skip (by kernel_rfl) .nil)
def F197 (a0 : List UInt8) (a1 : List UInt8) : Option (Int × Unit) :=
 (Option.bind (F207 a0 a1) fun y0 =>
 (some (y0.1, ())))
def C197 : Fun := ⟨[(.ro .str), (.ro .str)], [((.int .i64), .z)], fun z => F197 z.1 z.2.1⟩
def E197 : Env := ⟨8, tyTab tys, oneTab ones, fnTab [(207, C207)], false, [], [(99999, [4], [])], none, [], []⟩
def L197 : List (LoopS (Int × Unit)) := []
theorem C197_ok : QuietOk Tryz.prog 197 C197 := tQ E197 L197 [] Tryz.func197 ty_ok (.cons C207_ok .nil) .nil
def F196_R6 (er_0 : Int × Unit → Option (Int × Unit)) (rec : List UInt8 × List UInt8 × Int × Unit → Option (Int × Unit)) (x5 : List UInt8 × List UInt8 × Int × Unit) : Option (Int × Unit) :=
 (Option.bind (F197 x5.1 x5.2.1) fun y6 =>
 (cond (y6.1 == (-(1 : Int)))
 (er_0 (x5.2.2.1, ()))
 (gd (decide ((((List.length x5.1) : Nat) : Int) ≤ (((List.length x5.1) : Nat) : Int)))
 (gd (decide ((0 : Int) ≤ (IntKind.wrap IntKind.i64 (y6.1 + (((List.length x5.2.1) : Nat) : Int)))))
 (gd (decide ((IntKind.wrap IntKind.i64 (y6.1 + (((List.length x5.2.1) : Nat) : Int))) ≤ (((Int.toNat (((List.length x5.1) : Nat) : Int)) : Nat) : Int)))
 (rec ((List.drop (Int.toNat (IntKind.wrap IntKind.i64 (y6.1 + (((List.length x5.2.1) : Nat) : Int)))) (List.take (Int.toNat (((List.length x5.1) : Nat) : Int)) x5.1)), x5.2.1, (IntKind.wrap IntKind.i64 (x5.2.2.1 + (1 : Int))), ())))))))
def F196 (a0 : List UInt8) (a1 : List UInt8) : Option (Int × Unit) :=
 (cond ((((List.length a1) : Nat) : Int) == (0 : Int))
 none
 (cond ((((List.length a1) : Nat) : Int) == (1 : Int))
 (Option.bind a1[(Int.toNat (0 : Int))]? fun y2 =>
 (Option.bind (F206 a0 (((UInt8.toNat y2) : Nat) : Int)) fun y3 =>
 (some (y3.1, ()))))
 (iter (F196_R6
 (fun y8 =>
 (some (y8.1, ())))) fuel (a0, a1, (0 : Int), ()))))
def C196 : Fun := ⟨[(.ro .str), (.ro .str)], [((.int .i64), .z)], fun z => F196 z.1 z.2.1⟩
def E196 : Env := ⟨34, tyTab tys, oneTab ones, fnTab [(197, C197)], false, [], [(3, [0, 1], []), (5, [0, 1], []), (6, [0, 1, 5], []), (9, [0, 1, 5, 6], []), (100000, [], []), (100001, [0, 1, 5], []), (99999, [4], [])], none, [(206, C206)], []⟩
def L196 : List (LoopS (Int × Unit)) := [⟨6, ⟨[(0, (.pv .str)), (1, (.pv .str)), (5, (.pv (.int .i64)))], []⟩, fun κ => F196_R6 (fun y => κ.ret (SSh.mk' ⟨[(4, (.pv (.int .i64)))], []⟩ y))⟩]
theorem L196_6 : RoundEq E196 L196 L196[0] (nthLoop (codeOf Tryz.f196) 0) := fun κ N x => by kernel_rfl
theorem C196_ok : QuietOk Tryz.prog 196 C196 := tQ E196 L196 [nthLoop (codeOf Tryz.f196) 0] Tryz.func196 ty_ok (.cons C197_ok .nil) (.cons L196[0] (by kernel_rfl) L196_6 .nil) (hx := (.cons C206_ok .nil))
def F178_R11 (e0_0 : List UInt8 × Int × List (List UInt8) × Unit → Option (List (List UInt8) × Unit)) (rec : List UInt8 × List UInt8 × Int × Int × Int × List (List UInt8) × Unit → Option (List (List UInt8) × Unit)) (x8 : List UInt8 × List UInt8 × Int × Int × Int × List (List UInt8) × Unit) : Option (List (List UInt8) × Unit) :=
 (cond (decide (x8.2.2.2.2.1 < x8.2.2.2.1))
 (Option.bind (F197 x8.1 x8.2.1) fun y10 =>
 (cond (decide (y10.1 < (0 : Int)))
 (e0_0 (x8.1, x8.2.2.2.2.1, x8.2.2.2.2.2.1, ()))
 (gd (decide ((0 : Int) ≤ (IntKind.wrap IntKind.i64 (y10.1 + x8.2.2.1))))
 (gd (decide ((IntKind.wrap IntKind.i64 (y10.1 + x8.2.2.1)) ≤ (((List.length x8.1) : Nat) : Int)))
 (gd (decide ((0 : Int) ≤ x8.2.2.2.2.1))
 (gd (decide (x8.2.2.2.2.1 < (((List.length x8.2.2.2.2.2.1) : Nat) : Int)))
 (Option.bind x8.2.2.2.2.2.1[(Int.toNat x8.2.2.2.2.1)]? fun y12 =>
 (gd (decide ((((List.length x8.1) : Nat) : Int) ≤ (((List.length x8.1) : Nat) : Int)))
 (gd (decide ((0 : Int) ≤ (IntKind.wrap IntKind.i64 (y10.1 + (((List.length x8.2.1) : Nat) : Int)))))
 (gd (decide ((IntKind.wrap IntKind.i64 (y10.1 + (((List.length x8.2.1) : Nat) : Int))) ≤ (((Int.toNat (((List.length x8.1) : Nat) : Int)) : Nat) : Int)))
 (rec ((List.drop (Int.toNat (IntKind.wrap IntKind.i64 (y10.1 + (((List.length x8.2.1) : Nat) : Int)))) (List.take (Int.toNat (((List.length x8.1) : Nat) : Int)) x8.1)), x8.2.1, x8.2.2.1, x8.2.2.2.1, (IntKind.wrap IntKind.i64 (x8.2.2.2.2.1 + (1 : Int))), (List.set x8.2.2.2.2.2.1 (Int.toNat x8.2.2.2.2.1) (List.drop (Int.toNat (0 : Int)) (List.take (Int.toNat (IntKind.wrap IntKind.i64 (y10.1 + x8.2.2.1))) x8.1))), ()))))))))))))
 (e0_0 (x8.1, x8.2.2.2.2.1, x8.2.2.2.2.2.1, ())))
def F178 (a0 : List UInt8) (a1 : List UInt8) (a2 : Int) (a3 : Int) : Option (List (List UInt8) × Unit) :=
 (cond (a3 == (0 : Int))
 (some ([], ()))
 (cond (a1 == [])
 none
 (let j4 : List UInt8 × List UInt8 × Int × Int × Unit → Option (List (List UInt8) × Unit) := fun (y5 : List UInt8 × List UInt8 × Int × Int × Unit) =>
 (gd (decide ((0 : Int) ≤ (cond (decide ((IntKind.wrap IntKind.i64 ((((List.length y5.1) : Nat) : Int) + (1 : Int))) < y5.2.2.2.1)) (IntKind.wrap IntKind.i64 ((((List.length y5.1) : Nat) : Int) + (1 : Int))) y5.2.2.2.1)))
 (gd (decide ((cond (decide ((IntKind.wrap IntKind.i64 ((((List.length y5.1) : Nat) : Int) + (1 : Int))) < y5.2.2.2.1)) (IntKind.wrap IntKind.i64 ((((List.length y5.1) : Nat) : Int) + (1 : Int))) y5.2.2.2.1) ≤ ((4294967296 : Nat) : Int)))
 (gd (decide ((0 : Int) ≤ (cond (decide ((IntKind.wrap IntKind.i64 ((((List.length y5.1) : Nat) : Int) + (1 : Int))) < y5.2.2.2.1)) (IntKind.wrap IntKind.i64 ((((List.length y5.1) : Nat) : Int) + (1 : Int))) y5.2.2.2.1)))
 (gd (decide ((cond (decide ((IntKind.wrap IntKind.i64 ((((List.length y5.1) : Nat) : Int) + (1 : Int))) < y5.2.2.2.1)) (IntKind.wrap IntKind.i64 ((((List.length y5.1) : Nat) : Int) + (1 : Int))) y5.2.2.2.1) ≤ (((Int.toNat (cond (decide ((IntKind.wrap IntKind.i64 ((((List.length y5.1) : Nat) : Int) + (1 : Int))) < y5.2.2.2.1)) (IntKind.wrap IntKind.i64 ((((List.length y5.1) : Nat) : Int) + (1 : Int))) y5.2.2.2.1)) : Nat) : Int)))
 (iter (F178_R11
 (fun y13 =>
 (gd (decide ((0 : Int) ≤ y13.2.1))
 (gd (decide (y13.2.1 < (((List.length y13.2.2.1) : Nat) : Int)))
 (Option.bind y13.2.2.1[(Int.toNat y13.2.1)]? fun y14 =>
 (gd (decide ((0 : Int) ≤ (IntKind.wrap IntKind.i64 (y13.2.1 + (1 : Int)))))
 (gd (decide ((IntKind.wrap IntKind.i64 (y13.2.1 + (1 : Int))) ≤ (((List.length (List.set y13.2.2.1 (Int.toNat y13.2.1) y13.1)) : Nat) : Int)))
 (some ((List.drop (Int.toNat (0 : Int)) (List.take (Int.toNat (IntKind.wrap IntKind.i64 (y13.2.1 + (1 : Int)))) (List.set y13.2.2.1 (Int.toNat y13.2.1) y13.1))), ()))))))))) fuel (y5.1, y5.2.1, y5.2.2.1, (IntKind.wrap IntKind.i64 ((cond (decide ((IntKind.wrap IntKind.i64 ((((List.length y5.1) : Nat) : Int) + (1 : Int))) < y5.2.2.2.1)) (IntKind.wrap IntKind.i64 ((((List.length y5.1) : Nat) : Int) + (1 : Int))) y5.2.2.2.1) - (1 : Int))), (0 : Int), (List.replicate (Int.toNat (cond (decide ((IntKind.wrap IntKind.i64 ((((List.length y5.1) : Nat) : Int) + (1 : Int))) < y5.2.2.2.1)) (IntKind.wrap IntKind.i64 ((((List.length y5.1) : Nat) : Int) + (1 : Int))) y5.2.2.2.1)) []), ()))))))
 (cond (decide (a3 < (0 : Int)))
 (Option.bind (F196 a0 a1) fun y3 =>
 (j4 (a0, a1, a2, (IntKind.wrap IntKind.i64 (y3.1 + (1 : Int))), ())))
 (j4 (a0, a1, a2, a3, ()))))))
def C178 : Fun := ⟨[(.ro .str), (.ro .str), (.ro (.int .i64)), (.ro (.int .i64))], [((.slice .str), .z)], fun z => F178 z.1 z.2.1 z.2.2.1 z.2.2.2.1⟩
def E178 : Env := ⟨66, tyTab tys, oneTab ones, fnTab [(196, C196), (197, C197)], false, [], [(3, [0, 1, 2, 3], []), (5, [0, 1, 2, 3], []), (7, [0, 1, 2, 3], []), (11, [0, 1, 2, 3, 9, 10], []), (12, [0, 1, 2, 3, 9, 10], []), (14, [0, 1, 2, 3, 9, 10, 11], []), (17, [0, 9, 10], []), (100000, [0, 9, 10], []), (100001, [0, 1, 2, 3, 9, 10], []), (99999, [8], [])], none, [], []⟩
def L178 : List (LoopS (List (List UInt8) × Unit)) := [⟨11, ⟨[(0, (.pv .str)), (1, (.pv .str)), (2, (.pv (.int .i64))), (3, (.pv (.int .i64))), (9, (.ref (.slice .str) 248 [])), (10, (.pv (.int .i64)))], [(248, (.data false (.slice .str) (.own .z)))]⟩, fun κ => F178_R11 (fun y => κ.exit 0 (SSh.mk' ⟨[(0, (.pv .str)), (9, (.ref (.slice .str) 248 [])), (10, (.pv (.int .i64)))], [(248, (.data false (.slice .str) (.own .z)))]⟩ y))⟩]
theorem L178_11 : RoundEq E178 L178 L178[0] (nthLoop (codeOf Tryz.f178) 0) := fun κ N x => by kernel_rfl
theorem C178_ok : QuietOk Tryz.prog 178 C178 := tQ E178 L178 [nthLoop (codeOf Tryz.f178) 0] Tryz.func178 ty_ok (.cons C196_ok (.cons C197_ok .nil)) (.cons L178[0] (by kernel_rfl) L178_11 .nil)
def F154 (a0 : List UInt8) (a1 : List UInt8) : Option (List (List UInt8) × Unit) :=
 (Option.bind (F178 a0 a1 (0 : Int) (-(1 : Int))) fun y0 =>
 (some (y0.1, ())))
def C154 : Fun := ⟨[(.ro .str), (.ro .str)], [((.slice .str), .z)], fun z => F154 z.1 z.2.1⟩
def E154 : Env := ⟨8, tyTab tys, oneTab ones, fnTab [(178, C178)], false, [], [(99999, [4], [])], none, [], []⟩
def L154 : List (LoopS (List (List UInt8) × Unit)) := []
theorem C154_ok : QuietOk Tryz.prog 154 C154 := tQ E154 L154 [] Tryz.func154 ty_ok (.cons C178_ok .nil) .nil
def F122 (a0 : Int) : Option (Bool × Unit) :=
 (cond (decide (a0 ≥ (97 : Int)))
 (cond (decide (a0 ≤ (122 : Int)))
 (some (true, ()))
 (cond (decide (a0 ≥ (65 : Int)))
 (cond (decide (a0 ≤ (90 : Int)))
 (some (true, ()))
 (some ((a0 == (95 : Int)), ())))
 (some ((a0 == (95 : Int)), ()))))
 (cond (decide (a0 ≥ (65 : Int)))
 (cond (decide (a0 ≤ (90 : Int)))
 (some (true, ()))
 (some ((a0 == (95 : Int)), ())))
 (some ((a0 == (95 : Int)), ()))))
def C122 : Fun := ⟨[(.ro (.int .u8))], [(.bool, .z)], fun z => F122 z.1⟩
def E122 : Env := ⟨21, tyTab tys, oneTab ones, fnTab [], false, [], [(99999, [2], [])], none, [], []⟩
def L122 : List (LoopS (Bool × Unit)) := []
theorem C122_ok : QuietOk Tryz.prog 122 C122 := tQ E122 L122 [] Tryz.func122 ty_ok .nil .nil
def F123 (a0 : Int) : Option (Bool × Unit) :=
 (cond (decide (a0 ≥ (48 : Int)))
 (some ((decide (a0 ≤ (57 : Int))), ()))
 (some (false, ())))
def C123 : Fun := ⟨[(.ro (.int .u8))], [(.bool, .z)], fun z => F123 z.1⟩
def E123 : Env := ⟨9, tyTab tys, oneTab ones, fnTab [], false, [], [(99999, [2], [])], none, [], []⟩
def L123 : List (LoopS (Bool × Unit)) := []
theorem C123_ok : QuietOk Tryz.prog 123 C123 := tQ E123 L123 [] Tryz.func123 ty_ok .nil .nil
def F87_R2 (e0_0 : List UInt8 × Unit → Option (Bool × Unit)) (er_1 : Bool × Unit → Option (Bool × Unit)) (rec : List UInt8 × Int × Int × Unit → Option (Bool × Unit)) (x2 : List UInt8 × Int × Int × Unit) : Option (Bool × Unit) :=
 (cond (decide (x2.2.2.1 < x2.2.1))
 (let j9 : List UInt8 × Int × Int × Unit → Option (Bool × Unit) := fun (y10 : List UInt8 × Int × Int × Unit) =>
 (rec (y10.1, y10.2.1, (IntKind.wrap IntKind.i64 (y10.2.2.1 + (1 : Int))), ()))
 (gd (decide ((0 : Int) ≤ x2.2.2.1))
 (Option.bind x2.1[(Int.toNat x2.2.2.1)]? fun y5 =>
 (Option.bind (F122 (((UInt8.toNat y5) : Nat) : Int)) fun y6 =>
 (cond (!y6.1)
 (gd (decide ((0 : Int) ≤ x2.2.2.1))
 (Option.bind x2.1[(Int.toNat x2.2.2.1)]? fun y7 =>
 (Option.bind (F123 (((UInt8.toNat y7) : Nat) : Int)) fun y8 =>
 (cond (!y8.1)
 (er_1 (false, ()))
 (cond (x2.2.2.1 == (0 : Int))
 (er_1 (false, ()))
 (j9 (x2.1, x2.2.1, x2.2.2.1, ())))))))
 (j9 (x2.1, x2.2.1, x2.2.2.1, ())))))))
 (e0_0 (x2.1, ())))
def F87 (a0 : List UInt8) : Option (Bool × Unit) :=
 (iter (F87_R2
 (fun y11 =>
 (Option.bind (F52 (((List.length y11.1) : Nat) : Int) (1 : Int) (40 : Int)) fun y13 =>
 (some (y13.1, ()))))
 (fun y12 =>
 (some (y12.1, ())))) fuel (a0, (((List.length a0) : Nat) : Int), (0 : Int), ()))
def C87 : Fun := ⟨[(.ro .str)], [(.bool, .z)], fun z => F87 z.1⟩
def E87 : Env := ⟨29, tyTab tys, oneTab ones, fnTab [(52, C52), (122, C122), (123, C123)], false, [], [(2, [0, 5, 6], []), (3, [0, 5, 6], []), (6, [0, 5, 6], []), (7, [0], []), (100000, [0], []), (100001, [0, 5, 6], []), (99999, [2], [])], none, [], []⟩
def L87 : List (LoopS (Bool × Unit)) := [⟨2, ⟨[(0, (.pv .str)), (5, (.pv (.int .i64))), (6, (.pv (.int .i64)))], []⟩, fun κ => F87_R2 (fun y => κ.exit 0 (SSh.mk' ⟨[(0, (.pv .str))], []⟩ y)) (fun y => κ.ret (SSh.mk' ⟨[(2, (.pv .bool))], []⟩ y))⟩]
theorem L87_2 : RoundEq E87 L87 L87[0] (nthLoop (codeOf Tryz.f87) 0) := fun κ N x => by kernel_rfl
theorem C87_ok : QuietOk Tryz.prog 87 C87 := tQ E87 L87 [nthLoop (codeOf Tryz.f87) 0] Tryz.func87 ty_ok (.cons C52_ok (.cons C122_ok (.cons C123_ok .nil))) (.cons L87[0] (by kernel_rfl) L87_2 .nil)
def F54 (a0 : List UInt8) : Option (Bool × Unit) :=
 (cond (decide ((((List.length a0) : Nat) : Int) ≤ (12 : Int)))
 (Option.bind (F87 a0) fun y0 =>
 (some (y0.1, ())))
 (some (false, ())))
def C54 : Fun := ⟨[(.ro .str)], [(.bool, .z)], fun z => F54 z.1⟩
def E54 : Env := ⟨10, tyTab tys, oneTab ones, fnTab [(87, C87)], false, [], [(99999, [2], [])], none, [], []⟩
def L54 : List (LoopS (Bool × Unit)) := []
theorem C54_ok : QuietOk Tryz.prog 54 C54 := tQ E54 L54 [] Tryz.func54 ty_ok (.cons C87_ok .nil) .nil
def F155 (a0 : List UInt8) : Option (Bool × Unit) :=
 (Option.bind (F54 a0) fun y0 =>
 (some ((!y0.1), ())))
def C155 : Fun := ⟨[(.ro .str)], [(.bool, .z)], fun z => F155 z.1⟩
def E155 : Env := ⟨6, tyTab tys, oneTab ones, fnTab [(54, C54)], false, [], [(99999, [2], [])], none, [], []⟩
def L155 : List (LoopS (Bool × Unit)) := []
theorem C155_ok : QuietOk Tryz.prog 155 C155 := tQ E155 L155 [] Tryz.func155 ty_ok (.cons C54_ok .nil) .nil
def F118 (a0 : List UInt8) : Option (Bool × Unit) :=
 (Option.bind (F154 a0 [(46 : UInt8)]) fun y0 =>
 (cond (decide ((((List.length a0) : Nat) : Int) ≤ (50 : Int)))
 (cond (decide ((((List.length y0.1) : Nat) : Int) ≤ (4 : Int)))
 (Option.bind (F85 y0.1 (fun (v3 : List UInt8) => (Option.map (fun (v4 : (Bool × Unit)) => v4.1) (F155 v3)))) fun y1 =>
 (some ((!y1.1), ())))
 (some (false, ())))
 (some (false, ()))))
def C118 : Fun := ⟨[(.ro .str)], [(.bool, .z)], fun z => F118 z.1⟩
def E118 : Env := ⟨19, tyTab tys, oneTab ones, fnTab [(85, C85), (154, C154), (155, C155)], false, [], [(99999, [2], [])], none, [], []⟩
def L118 : List (LoopS (Bool × Unit)) := []
theorem C118_ok : QuietOk Tryz.prog 118 C118 := tQ E118 L118 [] Tryz.func118 ty_ok (.cons C85_ok (.cons C154_ok (.cons C155_ok .nil))) .nil
end
end Go.V
