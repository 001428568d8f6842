/- What functions of the program compute, printed by a program of ours. No condition. -/
import Derived.Test.YtkffanggiblcjaaGreatDoorWF1
namespace Go.V
open Go.Proofs
set_option maxRecDepth 100000
set_option linter.unusedVariables false
noncomputable def F155 (a0 : List (List UInt8)) (a1 : (List UInt8 → Option (Bool))) : Option (Bool × Unit) :=
 (Option.bind (F196 a0 a1) fun y0 =>
 (some ((decide (y0.1 ≥ (0 : Int))), ())))
noncomputable def C155 : Fun := ⟨[(.ro (.slice .str)), (.fn .str .bool)], [(.bool, .z)], fun z => F155 z.1 z.2.1⟩
noncomputable def E155 : Env := ⟨9, tyTab tys, oneTab ones, fnTab [(196, C196)], false, [], [(99999, [4], [])], none, [], []⟩
noncomputable def L155 : List (LoopS (Bool × Unit)) := []
theorem C155_ok : QuietOk Tryz.prog 155 C155 := tQ E155 L155 [] Tryz.func155 ty_ok (.cons C196_ok .nil) .nil
noncomputable def F287 (a0 : List UInt8) (a1 : Int) : Option (Int × Unit) :=
 (Option.bind (F291 a0 a1) fun y0 =>
 (some (y0.1, ())))
noncomputable def C287 : Fun := ⟨[(.ro .str), (.ro (.int .u8))], [((.int .i64), .z)], fun z => F287 z.1 z.2.1⟩
noncomputable def E287 : Env := ⟨8, tyTab tys, oneTab ones, fnTab [], false, [], [(99999, [4], [])], none, [(291, C291)], []⟩
noncomputable def L287 : List (LoopS (Int × Unit)) := []
theorem C287_ok : QuietOk Tryz.prog 287 C287 := tQ E287 L287 [] Tryz.func287 ty_ok .nil .nil (hx := (.cons C291_ok .nil))
noncomputable def F289 (a0 : Int) : Option (Int × Unit) :=
 (some ((IntKind.wrap IntKind.i64 (Int.tdiv (IntKind.wrap IntKind.i64 (a0 + (16 : Int))) (8 : Int))), ()))
noncomputable def C289 : Fun := ⟨[(.ro (.int .i64))], [((.int .i64), .z)], fun z => F289 z.1⟩
noncomputable def E289 : Env := ⟨6, tyTab tys, oneTab ones, fnTab [], false, [], [(99999, [2], [])], none, [], []⟩
noncomputable def L289 : List (LoopS (Int × Unit)) := []
theorem C289_ok : QuietOk Tryz.prog 289 C289 := tQ E289 L289 [] Tryz.func289 ty_ok .nil .nil
noncomputable def F283 (a0 : List UInt8) (a1 : List UInt8) : Option (Int × Unit) :=
 (cond ((((List.length a1) : Nat) : Int) == (0 : Int))
 (some ((0 : Int), ()))
 (cond (a1 == a0)
 (some ((0 : Int), ()))
 (cond ((((List.length a1) : Nat) : Int) == (1 : Int))
 (Option.bind a1[(Int.toNat (0 : Int))]? fun y1 =>
 (Option.bind (F287 a0 (((UInt8.toNat y1) : Nat) : Int)) fun y2 =>
 (some (y2.1, ()))))
 (gd (decide ((((List.length a1) : Nat) : Int) ≥ (((List.length a0) : Nat) : Int)))
 (some ((-(1 : Int)), ()))))))
noncomputable def C283 : Fun := ⟨[(.ro .str), (.ro .str)], [((.int .i64), .z)], fun z => F283 z.1 z.2.1⟩
noncomputable def E283 : Env := ⟨143, tyTab tys, oneTab ones, fnTab [(287, C287), (289, C289)], false, [], [(10, [0, 1, 5], []), (15, [0, 1, 5, 6, 7, 8, 9, 10], []), (16, [0, 1, 5, 6, 7, 8, 9, 10], []), (20, [0, 1, 5, 6, 7, 8, 9, 10, 11], []), (21, [0, 1, 5, 6, 7, 8, 9, 10], []), (23, [0, 1, 5, 6, 7, 8, 9, 10], []), (29, [], []), (34, [8, 13], []), (35, [], []), (100000, [0, 1, 5], []), (100001, [], []), (100002, [0, 1, 5, 6, 7, 8, 9, 10], []), (99999, [4], [])], none, [], []⟩
noncomputable def L283 : List (LoopS (Int × Unit)) := []
theorem C283_ok : QuietOk Tryz.prog 283 C283 := tQ E283 L283 [nthLoop (codeOf Tryz.f283) 0] Tryz.func283 ty_ok (.cons C287_ok (.cons C289_ok .nil)) (.skip (by kernel_rfl) .nil)
noncomputable def F273 (a0 : List UInt8) (a1 : List UInt8) : Option (Int × Unit) :=
 (Option.bind (F283 a0 a1) fun y0 =>
 (some (y0.1, ())))
noncomputable def C273 : Fun := ⟨[(.ro .str), (.ro .str)], [((.int .i64), .z)], fun z => F273 z.1 z.2.1⟩
noncomputable def E273 : Env := ⟨8, tyTab tys, oneTab ones, fnTab [(283, C283)], false, [], [(99999, [4], [])], none, [], []⟩
noncomputable def L273 : List (LoopS (Int × Unit)) := []
theorem C273_ok : QuietOk Tryz.prog 273 C273 := tQ E273 L273 [] Tryz.func273 ty_ok (.cons C283_ok .nil) .nil
noncomputable def F272_R6 (er_0 : Int × Unit → Option (Int × Unit)) (rec : List UInt8 × List UInt8 × Int × Unit → Option (Int × Unit)) (x5 : List UInt8 × List UInt8 × Int × Unit) : Option (Int × Unit) :=
 (Option.bind (F273 x5.1 x5.2.1) fun y6 =>
 (cond (y6.1 == (-(1 : Int)))
 (er_0 (x5.2.2.1, ()))
 (gd (decide ((((List.length x5.1) : Nat) : Int) ≤ (((List.length x5.1) : Nat) : Int)))
 (gd (decide ((0 : Int) ≤ (IntKind.wrap IntKind.i64 (y6.1 + (((List.length x5.2.1) : Nat) : Int)))))
 (gd (decide ((IntKind.wrap IntKind.i64 (y6.1 + (((List.length x5.2.1) : Nat) : Int))) ≤ (((Int.toNat (((List.length x5.1) : Nat) : Int)) : Nat) : Int)))
 (rec ((List.drop (Int.toNat (IntKind.wrap IntKind.i64 (y6.1 + (((List.length x5.2.1) : Nat) : Int)))) (List.take (Int.toNat (((List.length x5.1) : Nat) : Int)) x5.1)), x5.2.1, (IntKind.wrap IntKind.i64 (x5.2.2.1 + (1 : Int))), ())))))))
noncomputable def F272 (a0 : List UInt8) (a1 : List UInt8) : Option (Int × Unit) :=
 (cond ((((List.length a1) : Nat) : Int) == (0 : Int))
 none
 (cond ((((List.length a1) : Nat) : Int) == (1 : Int))
 (Option.bind a1[(Int.toNat (0 : Int))]? fun y2 =>
 (Option.bind (F282 a0 (((UInt8.toNat y2) : Nat) : Int)) fun y3 =>
 (some (y3.1, ()))))
 (iter (F272_R6
 (fun y8 =>
 (some (y8.1, ())))) fuel (a0, a1, (0 : Int), ()))))
noncomputable def C272 : Fun := ⟨[(.ro .str), (.ro .str)], [((.int .i64), .z)], fun z => F272 z.1 z.2.1⟩
noncomputable def E272 : Env := ⟨34, tyTab tys, oneTab ones, fnTab [(273, C273)], false, [], [(3, [0, 1], []), (5, [0, 1], []), (6, [0, 1, 5], []), (9, [0, 1, 5, 6], []), (100000, [], []), (100001, [0, 1, 5], []), (99999, [4], [])], none, [(282, C282)], []⟩
noncomputable def L272 : List (LoopS (Int × Unit)) := [⟨6, ⟨[(0, (.pv .str)), (1, (.pv .str)), (5, (.pv (.int .i64)))], []⟩, fun κ => F272_R6 (fun y => κ.ret (SSh.mk' ⟨[(4, (.pv (.int .i64)))], []⟩ y))⟩]
theorem L272_6 : RoundEq E272 L272 L272[0] (nthLoop (codeOf Tryz.f272) 0) := fun κ N x => by kernel_rfl
theorem C272_ok : QuietOk Tryz.prog 272 C272 := tQ E272 L272 [nthLoop (codeOf Tryz.f272) 0] Tryz.func272 ty_ok (.cons C273_ok .nil) (.cons L272[0] (by kernel_rfl) L272_6 .nil) (hx := (.cons C282_ok .nil))
noncomputable def F254_R11 (e0_0 : List UInt8 × Int × List (List UInt8) × Unit → Option (List (List UInt8) × Unit)) (rec : List UInt8 × List UInt8 × Int × Int × Int × List (List UInt8) × Unit → Option (List (List UInt8) × Unit)) (x8 : List UInt8 × List UInt8 × Int × Int × Int × List (List UInt8) × Unit) : Option (List (List UInt8) × Unit) :=
 (cond (decide (x8.2.2.2.2.1 < x8.2.2.2.1))
 (Option.bind (F273 x8.1 x8.2.1) fun y10 =>
 (cond (decide (y10.1 < (0 : Int)))
 (e0_0 (x8.1, x8.2.2.2.2.1, x8.2.2.2.2.2.1, ()))
 (gd (decide ((0 : Int) ≤ (IntKind.wrap IntKind.i64 (y10.1 + x8.2.2.1))))
 (gd (decide ((IntKind.wrap IntKind.i64 (y10.1 + x8.2.2.1)) ≤ (((List.length x8.1) : Nat) : Int)))
 (gd (decide ((0 : Int) ≤ x8.2.2.2.2.1))
 (gd (decide (x8.2.2.2.2.1 < (((List.length x8.2.2.2.2.2.1) : Nat) : Int)))
 (Option.bind x8.2.2.2.2.2.1[(Int.toNat x8.2.2.2.2.1)]? fun y12 =>
 (gd (decide ((((List.length x8.1) : Nat) : Int) ≤ (((List.length x8.1) : Nat) : Int)))
 (gd (decide ((0 : Int) ≤ (IntKind.wrap IntKind.i64 (y10.1 + (((List.length x8.2.1) : Nat) : Int)))))
 (gd (decide ((IntKind.wrap IntKind.i64 (y10.1 + (((List.length x8.2.1) : Nat) : Int))) ≤ (((Int.toNat (((List.length x8.1) : Nat) : Int)) : Nat) : Int)))
 (rec ((List.drop (Int.toNat (IntKind.wrap IntKind.i64 (y10.1 + (((List.length x8.2.1) : Nat) : Int)))) (List.take (Int.toNat (((List.length x8.1) : Nat) : Int)) x8.1)), x8.2.1, x8.2.2.1, x8.2.2.2.1, (IntKind.wrap IntKind.i64 (x8.2.2.2.2.1 + (1 : Int))), (List.set x8.2.2.2.2.2.1 (Int.toNat x8.2.2.2.2.1) (List.drop (Int.toNat (0 : Int)) (List.take (Int.toNat (IntKind.wrap IntKind.i64 (y10.1 + x8.2.2.1))) x8.1))), ()))))))))))))
 (e0_0 (x8.1, x8.2.2.2.2.1, x8.2.2.2.2.2.1, ())))
noncomputable def F254 (a0 : List UInt8) (a1 : List UInt8) (a2 : Int) (a3 : Int) : Option (List (List UInt8) × Unit) :=
 (cond (a3 == (0 : Int))
 (some ([], ()))
 (cond (a1 == [])
 none
 (let j4 : List UInt8 × List UInt8 × Int × Int × Unit → Option (List (List UInt8) × Unit) := fun (y5 : List UInt8 × List UInt8 × Int × Int × Unit) =>
 (gd (decide ((0 : Int) ≤ (cond (decide ((IntKind.wrap IntKind.i64 ((((List.length y5.1) : Nat) : Int) + (1 : Int))) < y5.2.2.2.1)) (IntKind.wrap IntKind.i64 ((((List.length y5.1) : Nat) : Int) + (1 : Int))) y5.2.2.2.1)))
 (gd (decide ((cond (decide ((IntKind.wrap IntKind.i64 ((((List.length y5.1) : Nat) : Int) + (1 : Int))) < y5.2.2.2.1)) (IntKind.wrap IntKind.i64 ((((List.length y5.1) : Nat) : Int) + (1 : Int))) y5.2.2.2.1) ≤ ((4294967296 : Nat) : Int)))
 (gd (decide ((0 : Int) ≤ (cond (decide ((IntKind.wrap IntKind.i64 ((((List.length y5.1) : Nat) : Int) + (1 : Int))) < y5.2.2.2.1)) (IntKind.wrap IntKind.i64 ((((List.length y5.1) : Nat) : Int) + (1 : Int))) y5.2.2.2.1)))
 (gd (decide ((cond (decide ((IntKind.wrap IntKind.i64 ((((List.length y5.1) : Nat) : Int) + (1 : Int))) < y5.2.2.2.1)) (IntKind.wrap IntKind.i64 ((((List.length y5.1) : Nat) : Int) + (1 : Int))) y5.2.2.2.1) ≤ (((Int.toNat (cond (decide ((IntKind.wrap IntKind.i64 ((((List.length y5.1) : Nat) : Int) + (1 : Int))) < y5.2.2.2.1)) (IntKind.wrap IntKind.i64 ((((List.length y5.1) : Nat) : Int) + (1 : Int))) y5.2.2.2.1)) : Nat) : Int)))
 (iter (F254_R11
 (fun y13 =>
 (gd (decide ((0 : Int) ≤ y13.2.1))
 (gd (decide (y13.2.1 < (((List.length y13.2.2.1) : Nat) : Int)))
 (Option.bind y13.2.2.1[(Int.toNat y13.2.1)]? fun y14 =>
 (gd (decide ((0 : Int) ≤ (IntKind.wrap IntKind.i64 (y13.2.1 + (1 : Int)))))
 (gd (decide ((IntKind.wrap IntKind.i64 (y13.2.1 + (1 : Int))) ≤ (((List.length (List.set y13.2.2.1 (Int.toNat y13.2.1) y13.1)) : Nat) : Int)))
 (some ((List.drop (Int.toNat (0 : Int)) (List.take (Int.toNat (IntKind.wrap IntKind.i64 (y13.2.1 + (1 : Int)))) (List.set y13.2.2.1 (Int.toNat y13.2.1) y13.1))), ()))))))))) fuel (y5.1, y5.2.1, y5.2.2.1, (IntKind.wrap IntKind.i64 ((cond (decide ((IntKind.wrap IntKind.i64 ((((List.length y5.1) : Nat) : Int) + (1 : Int))) < y5.2.2.2.1)) (IntKind.wrap IntKind.i64 ((((List.length y5.1) : Nat) : Int) + (1 : Int))) y5.2.2.2.1) - (1 : Int))), (0 : Int), (List.replicate (Int.toNat (cond (decide ((IntKind.wrap IntKind.i64 ((((List.length y5.1) : Nat) : Int) + (1 : Int))) < y5.2.2.2.1)) (IntKind.wrap IntKind.i64 ((((List.length y5.1) : Nat) : Int) + (1 : Int))) y5.2.2.2.1)) []), ()))))))
 (cond (decide (a3 < (0 : Int)))
 (Option.bind (F272 a0 a1) fun y3 =>
 (j4 (a0, a1, a2, (IntKind.wrap IntKind.i64 (y3.1 + (1 : Int))), ())))
 (j4 (a0, a1, a2, a3, ()))))))
noncomputable def C254 : Fun := ⟨[(.ro .str), (.ro .str), (.ro (.int .i64)), (.ro (.int .i64))], [((.slice .str), .z)], fun z => F254 z.1 z.2.1 z.2.2.1 z.2.2.2.1⟩
noncomputable def E254 : Env := ⟨66, tyTab tys, oneTab ones, fnTab [(272, C272), (273, C273)], false, [], [(3, [0, 1, 2, 3], []), (5, [0, 1, 2, 3], []), (7, [0, 1, 2, 3], []), (11, [0, 1, 2, 3, 9, 10], []), (12, [0, 1, 2, 3, 9, 10], []), (14, [0, 1, 2, 3, 9, 10, 11], []), (17, [0, 9, 10], []), (100000, [0, 9, 10], []), (100001, [0, 1, 2, 3, 9, 10], []), (99999, [8], [])], none, [], []⟩
noncomputable def L254 : List (LoopS (List (List UInt8) × Unit)) := [⟨11, ⟨[(0, (.pv .str)), (1, (.pv .str)), (2, (.pv (.int .i64))), (3, (.pv (.int .i64))), (9, (.ref (.slice .str) 248 [])), (10, (.pv (.int .i64)))], [(248, (.data false (.slice .str) (.own .z)))]⟩, fun κ => F254_R11 (fun y => κ.exit 0 (SSh.mk' ⟨[(0, (.pv .str)), (9, (.ref (.slice .str) 248 [])), (10, (.pv (.int .i64)))], [(248, (.data false (.slice .str) (.own .z)))]⟩ y))⟩]
theorem L254_11 : RoundEq E254 L254 L254[0] (nthLoop (codeOf Tryz.f254) 0) := fun κ N x => by kernel_rfl
theorem C254_ok : QuietOk Tryz.prog 254 C254 := tQ E254 L254 [nthLoop (codeOf Tryz.f254) 0] Tryz.func254 ty_ok (.cons C272_ok (.cons C273_ok .nil)) (.cons L254[0] (by kernel_rfl) L254_11 .nil)
noncomputable def F230 (a0 : List UInt8) (a1 : List UInt8) : Option (List (List UInt8) × Unit) :=
 (Option.bind (F254 a0 a1 (0 : Int) (-(1 : Int))) fun y0 =>
 (some (y0.1, ())))
noncomputable def C230 : Fun := ⟨[(.ro .str), (.ro .str)], [((.slice .str), .z)], fun z => F230 z.1 z.2.1⟩
noncomputable def E230 : Env := ⟨8, tyTab tys, oneTab ones, fnTab [(254, C254)], false, [], [(99999, [4], [])], none, [], []⟩
noncomputable def L230 : List (LoopS (List (List UInt8) × Unit)) := []
theorem C230_ok : QuietOk Tryz.prog 230 C230 := tQ E230 L230 [] Tryz.func230 ty_ok (.cons C254_ok .nil) .nil
noncomputable def F197 (a0 : Int) : Option (Bool × Unit) :=
 (cond (decide (a0 ≥ (97 : Int)))
 (cond (decide (a0 ≤ (122 : Int)))
 (some (true, ()))
 (cond (decide (a0 ≥ (65 : Int)))
 (cond (decide (a0 ≤ (90 : Int)))
 (some (true, ()))
 (some ((a0 == (95 : Int)), ())))
 (some ((a0 == (95 : Int)), ()))))
 (cond (decide (a0 ≥ (65 : Int)))
 (cond (decide (a0 ≤ (90 : Int)))
 (some (true, ()))
 (some ((a0 == (95 : Int)), ())))
 (some ((a0 == (95 : Int)), ()))))
noncomputable def C197 : Fun := ⟨[(.ro (.int .u8))], [(.bool, .z)], fun z => F197 z.1⟩
noncomputable def E197 : Env := ⟨21, tyTab tys, oneTab ones, fnTab [], false, [], [(99999, [2], [])], none, [], []⟩
noncomputable def L197 : List (LoopS (Bool × Unit)) := []
theorem C197_ok : QuietOk Tryz.prog 197 C197 := tQ E197 L197 [] Tryz.func197 ty_ok .nil .nil
noncomputable def F198 (a0 : Int) : Option (Bool × Unit) :=
 (cond (decide (a0 ≥ (48 : Int)))
 (some ((decide (a0 ≤ (57 : Int))), ()))
 (some (false, ())))
noncomputable def C198 : Fun := ⟨[(.ro (.int .u8))], [(.bool, .z)], fun z => F198 z.1⟩
noncomputable def E198 : Env := ⟨9, tyTab tys, oneTab ones, fnTab [], false, [], [(99999, [2], [])], none, [], []⟩
noncomputable def L198 : List (LoopS (Bool × Unit)) := []
theorem C198_ok : QuietOk Tryz.prog 198 C198 := tQ E198 L198 [] Tryz.func198 ty_ok .nil .nil
noncomputable def F157_R2 (e0_0 : List UInt8 × Unit → Option (Bool × Unit)) (er_1 : Bool × Unit → Option (Bool × Unit)) (rec : List UInt8 × Int × Int × Unit → Option (Bool × Unit)) (x2 : List UInt8 × Int × Int × Unit) : Option (Bool × Unit) :=
 (cond (decide (x2.2.2.1 < x2.2.1))
 (let j9 : List UInt8 × Int × Int × Unit → Option (Bool × Unit) := fun (y10 : List UInt8 × Int × Int × Unit) =>
 (rec (y10.1, y10.2.1, (IntKind.wrap IntKind.i64 (y10.2.2.1 + (1 : Int))), ()))
 (gd (decide ((0 : Int) ≤ x2.2.2.1))
 (Option.bind x2.1[(Int.toNat x2.2.2.1)]? fun y5 =>
 (Option.bind (F197 (((UInt8.toNat y5) : Nat) : Int)) fun y6 =>
 (cond (!y6.1)
 (gd (decide ((0 : Int) ≤ x2.2.2.1))
 (Option.bind x2.1[(Int.toNat x2.2.2.1)]? fun y7 =>
 (Option.bind (F198 (((UInt8.toNat y7) : Nat) : Int)) fun y8 =>
 (cond (!y8.1)
 (er_1 (false, ()))
 (cond (x2.2.2.1 == (0 : Int))
 (er_1 (false, ()))
 (j9 (x2.1, x2.2.1, x2.2.2.1, ())))))))
 (j9 (x2.1, x2.2.1, x2.2.2.1, ())))))))
 (e0_0 (x2.1, ())))
noncomputable def F157 (a0 : List UInt8) : Option (Bool × Unit) :=
 (iter (F157_R2
 (fun y11 =>
 (Option.bind (F105 (((List.length y11.1) : Nat) : Int) (1 : Int) (40 : Int)) fun y13 =>
 (some (y13.1, ()))))
 (fun y12 =>
 (some (y12.1, ())))) fuel (a0, (((List.length a0) : Nat) : Int), (0 : Int), ()))
noncomputable def C157 : Fun := ⟨[(.ro .str)], [(.bool, .z)], fun z => F157 z.1⟩
noncomputable def E157 : Env := ⟨29, tyTab tys, oneTab ones, fnTab [(105, C105), (197, C197), (198, C198)], false, [], [(2, [0, 5, 6], []), (3, [0, 5, 6], []), (6, [0, 5, 6], []), (7, [0], []), (100000, [0], []), (100001, [0, 5, 6], []), (99999, [2], [])], none, [], []⟩
noncomputable def L157 : List (LoopS (Bool × Unit)) := [⟨2, ⟨[(0, (.pv .str)), (5, (.pv (.int .i64))), (6, (.pv (.int .i64)))], []⟩, fun κ => F157_R2 (fun y => κ.exit 0 (SSh.mk' ⟨[(0, (.pv .str))], []⟩ y)) (fun y => κ.ret (SSh.mk' ⟨[(2, (.pv .bool))], []⟩ y))⟩]
theorem L157_2 : RoundEq E157 L157 L157[0] (nthLoop (codeOf Tryz.f157) 0) := fun κ N x => by kernel_rfl
theorem C157_ok : QuietOk Tryz.prog 157 C157 := tQ E157 L157 [nthLoop (codeOf Tryz.f157) 0] Tryz.func157 ty_ok (.cons C105_ok (.cons C197_ok (.cons C198_ok .nil))) (.cons L157[0] (by kernel_rfl) L157_2 .nil)
noncomputable def F107 (a0 : List UInt8) : Option (Bool × Unit) :=
 (cond (decide ((((List.length a0) : Nat) : Int) ≤ (12 : Int)))
 (Option.bind (F157 a0) fun y0 =>
 (some (y0.1, ())))
 (some (false, ())))
noncomputable def C107 : Fun := ⟨[(.ro .str)], [(.bool, .z)], fun z => F107 z.1⟩
noncomputable def E107 : Env := ⟨10, tyTab tys, oneTab ones, fnTab [(157, C157)], false, [], [(99999, [2], [])], none, [], []⟩
noncomputable def L107 : List (LoopS (Bool × Unit)) := []
theorem C107_ok : QuietOk Tryz.prog 107 C107 := tQ E107 L107 [] Tryz.func107 ty_ok (.cons C157_ok .nil) .nil
noncomputable def F231 (a0 : List UInt8) : Option (Bool × Unit) :=
 (Option.bind (F107 a0) fun y0 =>
 (some ((!y0.1), ())))
noncomputable def C231 : Fun := ⟨[(.ro .str)], [(.bool, .z)], fun z => F231 z.1⟩
noncomputable def E231 : Env := ⟨6, tyTab tys, oneTab ones, fnTab [(107, C107)], false, [], [(99999, [2], [])], none, [], []⟩
noncomputable def L231 : List (LoopS (Bool × Unit)) := []
theorem C231_ok : QuietOk Tryz.prog 231 C231 := tQ E231 L231 [] Tryz.func231 ty_ok (.cons C107_ok .nil) .nil
noncomputable def F193 (a0 : List UInt8) : Option (Bool × Unit) :=
 (Option.bind (F230 a0 [(46 : UInt8)]) fun y0 =>
 (cond (decide ((((List.length a0) : Nat) : Int) ≤ (50 : Int)))
 (cond (decide ((((List.length y0.1) : Nat) : Int) ≤ (4 : Int)))
 (Option.bind (F155 y0.1 (fun (v3 : List UInt8) => (Option.map (fun (v4 : (Bool × Unit)) => v4.1) (F231 v3)))) fun y1 =>
 (some ((!y1.1), ())))
 (some (false, ())))
 (some (false, ()))))
noncomputable def C193 : Fun := ⟨[(.ro .str)], [(.bool, .z)], fun z => F193 z.1⟩
noncomputable def E193 : Env := ⟨19, tyTab tys, oneTab ones, fnTab [(155, C155), (230, C230), (231, C231)], false, [], [(99999, [2], [])], none, [], []⟩
noncomputable def L193 : List (LoopS (Bool × Unit)) := []
theorem C193_ok : QuietOk Tryz.prog 193 C193 := tQ E193 L193 [] Tryz.func193 ty_ok (.cons C155_ok (.cons C230_ok (.cons C231_ok .nil))) .nil
noncomputable def F160_R2 (e0_0 : Unit → Option (Int × Unit)) (er_1 : Int × Unit → Option (Int × Unit)) (rec : List (D84) × (D84 → Option (Bool)) × Int × Int × Unit → Option (Int × Unit)) (x2 : List (D84) × (D84 → Option (Bool)) × Int × Int × Unit) : Option (Int × Unit) :=
 (cond (decide (x2.2.2.2.1 < x2.2.2.1))
 (gd (decide ((0 : Int) ≤ x2.2.2.2.1))
 (Option.bind x2.1[(Int.toNat x2.2.2.2.1)]? fun y5 =>
 (Option.bind (x2.2.1 y5) fun y6 =>
 (cond y6
 (er_1 (x2.2.2.2.1, ()))
 (rec (x2.1, x2.2.1, x2.2.2.1, (IntKind.wrap IntKind.i64 (x2.2.2.2.1 + (1 : Int))), ()))))))
 (e0_0 (())))
noncomputable def F160 (a0 : List (D84)) (a1 : (D84 → Option (Bool))) : Option (Int × Unit) :=
 (iter (F160_R2
 (fun y7 =>
 (some ((-(1 : Int)), ())))
 (fun y8 =>
 (some (y8.1, ())))) fuel (a0, a1, (((List.length a0) : Nat) : Int), (0 : Int), ()))
noncomputable def C160 : Fun := ⟨[(.ro (.slice Y84)), (.fn Y84 .bool)], [((.int .i64), .z)], fun z => F160 z.1 z.2.1⟩
noncomputable def E160 : Env := ⟨19, tyTab tys, oneTab ones, fnTab [], false, [], [(2, [0, 1, 7, 8], []), (3, [0, 1, 7, 8], []), (6, [0, 1, 7, 8], []), (7, [], []), (100000, [], []), (100001, [0, 1, 7, 8], []), (99999, [4], [])], none, [], []⟩
noncomputable def L160 : List (LoopS (Int × Unit)) := [⟨2, ⟨[(0, (.pv (.slice Y84))), (1, (.fnA Y84 .bool)), (7, (.pv (.int .i64))), (8, (.pv (.int .i64)))], []⟩, fun κ => F160_R2 (fun y => κ.exit 0 (SSh.mk' ⟨[], []⟩ y)) (fun y => κ.ret (SSh.mk' ⟨[(4, (.pv (.int .i64)))], []⟩ y))⟩]
theorem L160_2 : RoundEq E160 L160 L160[0] (nthLoop (codeOf Tryz.f160) 0) := fun κ N x => by kernel_rfl
theorem C160_ok : QuietOk Tryz.prog 160 C160 := tQ E160 L160 [nthLoop (codeOf Tryz.f160) 0] Tryz.func160 ty_ok .nil (.cons L160[0] (by kernel_rfl) L160_2 .nil)
noncomputable def F201 (a0 : List (D84)) (a1 : (D84 → Option (Bool))) : Option (Bool × Unit) :=
 (Option.bind (F160 a0 a1) fun y0 =>
 (some ((decide (y0.1 ≥ (0 : Int))), ())))
noncomputable def C201 : Fun := ⟨[(.ro (.slice Y84)), (.fn Y84 .bool)], [(.bool, .z)], fun z => F201 z.1 z.2.1⟩
noncomputable def E201 : Env := ⟨9, tyTab tys, oneTab ones, fnTab [(160, C160)], false, [], [(99999, [4], [])], none, [], []⟩
noncomputable def L201 : List (LoopS (Bool × Unit)) := []
theorem C201_ok : QuietOk Tryz.prog 201 C201 := tQ E201 L201 [] Tryz.func201 ty_ok (.cons C160_ok .nil) .nil
noncomputable def F255 (a0 : Int) : Option (Bool × Unit) :=
 (Option.bind (F105 a0 (-(1000000000000 : Int)) (1000000000000 : Int)) fun y0 =>
 (some (y0.1, ())))
noncomputable def C255 : Fun := ⟨[(.ro (.int .i64))], [(.bool, .z)], fun z => F255 z.1⟩
noncomputable def E255 : Env := ⟨5, tyTab tys, oneTab ones, fnTab [(105, C105)], false, [], [(99999, [2], [])], none, [], []⟩
noncomputable def L255 : List (LoopS (Bool × Unit)) := []
theorem C255_ok : QuietOk Tryz.prog 255 C255 := tQ E255 L255 [] Tryz.func255 ty_ok (.cons C105_ok .nil) .nil
noncomputable def F213 (a0 : D133) (a1 : Int) : Option (List UInt8 × D133 × Unit) :=
 (cond (decide (a1 > (((List.length a0.1) : Nat) : Int)))
 (Option.bind (F249 [(0 : UInt8)] a1) fun y1 =>
 (some (y1.1, ((a0.1, (true, a0.2.2)), ()))))
 (gd (decide ((0 : Int) ≤ a1))
 (gd (decide (a1 ≤ (((List.length a0.1) : Nat) : Int)))
 (gd (decide ((((List.length a0.1) : Nat) : Int) ≤ (((List.length a0.1) : Nat) : Int)))
 (gd (decide ((0 : Int) ≤ a1))
 (gd (decide (a1 ≤ (((Int.toNat (((List.length a0.1) : Nat) : Int)) : Nat) : Int)))
 (some ((List.drop (Int.toNat (0 : Int)) (List.take (Int.toNat a1) a0.1)), (((List.drop (Int.toNat a1) (List.take (Int.toNat (((List.length a0.1) : Nat) : Int)) a0.1)), a0.2), ())))))))))
noncomputable def C213 : Fun := ⟨[(.io Y133 .z), (.ro (.int .i64))], [(.str, .z)], fun z => F213 z.1 z.2.1⟩
noncomputable def E213 : Env := ⟨34, tyTab tys, oneTab ones, fnTab [(249, C249)], false, [], [(4, [0, 1], [4]), (99999, [4], [4])], none, [], []⟩
noncomputable def L213 : List (LoopS (List UInt8 × D133 × Unit)) := []
theorem C213_ok : IoOk Tryz.prog 213 C213 := tI E213 L213 [] Tryz.func213 ty_ok (.cons C249_ok .nil) (fun p => .nil)
noncomputable def F250_R3 (e0_0 : Int × Unit → Option (Int × Unit)) (rec : Int × List (Int) × Int × Int × Unit → Option (Int × Unit)) (x2 : Int × List (Int) × Int × Int × Unit) : Option (Int × Unit) :=
 (cond (decide (x2.2.2.2.1 < x2.2.2.1))
 (gd (decide ((0 : Int) ≤ x2.2.2.2.1))
 (Option.bind x2.2.1[(Int.toNat x2.2.2.2.1)]? fun y4 =>
 (rec ((IntKind.wrap IntKind.i64 (((BitVec.toNat (HOr.hOr (BitVec.ofInt (IntKind.bits IntKind.i64) (IntKind.wrap IntKind.i64 (x2.1 * ((2 : Int) ^ (Min.min (Int.toNat (8 : Int)) (IntKind.bits IntKind.i64)))))) (BitVec.ofInt (IntKind.bits IntKind.i64) (IntKind.wrap IntKind.i64 y4)))) : Nat) : Int)), x2.2.1, x2.2.2.1, (IntKind.wrap IntKind.i64 (x2.2.2.2.1 + (1 : Int))), ()))))
 (e0_0 (x2.1, ())))
noncomputable def F250 (a0 : List (Int)) : Option (Int × Unit) :=
 (iter (F250_R3
 (fun y5 =>
 (some (y5.1, ())))) fuel ((0 : Int), a0, (((List.length a0) : Nat) : Int), (0 : Int), ()))
noncomputable def C250 : Fun := ⟨[(.ro (.slice (.int .u8)))], [((.int .i64), .z)], fun z => F250 z.1⟩
noncomputable def E250 : Env := ⟨19, tyTab tys, oneTab ones, fnTab [], false, [], [(3, [3, 6, 7, 8], []), (4, [3, 6, 7, 8], []), (7, [3], []), (100000, [3], []), (100001, [3, 6, 7, 8], []), (99999, [2], [])], none, [], []⟩
noncomputable def L250 : List (LoopS (Int × Unit)) := [⟨3, ⟨[(3, (.pv (.int .i64))), (6, (.pv (.slice (.int .u8)))), (7, (.pv (.int .i64))), (8, (.pv (.int .i64)))], []⟩, fun κ => F250_R3 (fun y => κ.exit 0 (SSh.mk' ⟨[(3, (.pv (.int .i64)))], []⟩ y))⟩]
theorem L250_3 : RoundEq E250 L250 L250[0] (nthLoop (codeOf Tryz.f250) 0) := fun κ N x => by kernel_rfl
theorem C250_ok : QuietOk Tryz.prog 250 C250 := tQ E250 L250 [nthLoop (codeOf Tryz.f250) 0] Tryz.func250 ty_ok .nil (.cons L250[0] (by kernel_rfl) L250_3 .nil)
noncomputable def F214 (a0 : D133) (a1 : Int) : Option (Int × D133 × Unit) :=
 (Option.bind (F213 a0 a1) fun y0 =>
 (Option.bind (F250 (List.map (fun (v4 : UInt8) => (((UInt8.toNat v4) : Nat) : Int)) y0.1)) fun y1 =>
 (some (y1.1, (y0.2.1, ())))))
noncomputable def C214 : Fun := ⟨[(.io Y133 .z), (.ro (.int .i64))], [((.int .i64), .z)], fun z => F214 z.1 z.2.1⟩
noncomputable def E214 : Env := ⟨10, tyTab tys, oneTab ones, fnTab [(213, C213), (250, C250)], false, [], [(99999, [4], [4])], none, [], []⟩
noncomputable def L214 : List (LoopS (Int × D133 × Unit)) := []
theorem C214_ok : IoOk Tryz.prog 214 C214 := tI E214 L214 [] Tryz.func214 ty_ok (.consIo C213_ok (.cons C250_ok .nil)) (fun p => .nil)
noncomputable def F215 (a0 : D133) : Option (D84 × D133 × Unit) :=
 (Option.bind (F214 a0 (1 : Int)) fun y0 =>
 (let j11 : D133 × D84 × D84 × Unit → Option (D84 × D133 × Unit) := fun (y12 : D133 × D84 × D84 × Unit) =>
 (some (y12.2.2.1, (y12.1, ())))
 (cond (y0.1 == (1 : Int))
 (Option.bind (F214 y0.2.1 (1 : Int)) fun y2 =>
 (j11 (y2.2.1, ((0 : Int), ((0 : Int), ([], ()))), (y0.1, (y2.1, ([], ()))), ())))
 (cond (y0.1 == (2 : Int))
 (Option.bind (F214 y0.2.1 (8 : Int)) fun y3 =>
 (j11 (y3.2.1, ((0 : Int), ((0 : Int), ([], ()))), (y0.1, ((IntKind.wrap IntKind.i64 (y3.1 - (4611686018427387904 : Int))), ([], ()))), ())))
 (cond (y0.1 == (3 : Int))
 (cond (y0.1 == (3 : Int))
 (Option.bind (F214 y0.2.1 (2 : Int)) fun y5 =>
 (Option.bind (F213 y5.2.1 y5.1) fun y6 =>
 (j11 (y6.2.1, ((0 : Int), ((0 : Int), ([], ()))), (y0.1, ((0 : Int), (y6.1, ()))), ()))))
 (j11 (y0.2.1, ((0 : Int), ((0 : Int), ([], ()))), (y0.1, ((0 : Int), ([], ()))), ())))
 (cond (y0.1 == (4 : Int))
 (cond (y0.1 == (4 : Int))
 (Option.bind (F214 y0.2.1 (2 : Int)) fun y7 =>
 (Option.bind (F213 y7.2.1 y7.1) fun y8 =>
 (j11 (y8.2.1, ((0 : Int), ((0 : Int), ([], ()))), (y0.1, ((0 : Int), (y8.1, ()))), ()))))
 (j11 (y0.2.1, ((0 : Int), ((0 : Int), ([], ()))), (y0.1, ((0 : Int), ([], ()))), ())))
 (cond (y0.1 == (5 : Int))
 (Option.bind (F214 y0.2.1 (2 : Int)) fun y9 =>
 (Option.bind (F213 y9.2.1 y9.1) fun y10 =>
 (j11 (y10.2.1, ((0 : Int), ((0 : Int), ([], ()))), (y0.1, ((0 : Int), (y10.1, ()))), ()))))
 (j11 (y0.2.1, ((0 : Int), ((0 : Int), ([], ()))), (y0.1, ((0 : Int), ([], ()))), ())))))))))
noncomputable def C215 : Fun := ⟨[(.io Y133 .z)], [(Y84, .z)], fun z => F215 z.1⟩
noncomputable def E215 : Env := ⟨30, tyTab tys, oneTab ones, fnTab [(213, C213), (214, C214)], false, [], [(11, [2, 3], [4]), (100000, [2, 3], [4]), (99999, [2], [4])], none, [], []⟩
noncomputable def L215 : List (LoopS (D84 × D133 × Unit)) := []
theorem C215_ok : IoOk Tryz.prog 215 C215 := tI E215 L215 [] Tryz.func215 ty_ok (.consIo C213_ok (.consIo C214_ok .nil)) (fun p => .nil)
noncomputable def F169_R2 (e0_0 : D133 × List (D180) × Unit → Option (List (D180) × Bool × Unit)) (rec : D133 × List (D180) × Unit → Option (List (D180) × Bool × Unit)) (x2 : D133 × List (D180) × Unit) : Option (List (D180) × Bool × Unit) :=
 (cond (!(x2.1.1 == []))
 (cond (!x2.1.2.1)
 (Option.bind (F214 x2.1 (1 : Int)) fun y4 =>
 (Option.bind (F213 y4.2.1 y4.1) fun y5 =>
 (Option.bind (F215 y5.2.1) fun y6 =>
 (gd (decide (((List.length x2.2.1) + (List.length [(y5.1, (y6.1, ()))])) ≤ lim))
 (rec (y6.2.1, (x2.2.1 ++ [(y5.1, (y6.1, ()))]), ()))))))
 (e0_0 (x2.1, x2.2.1, ())))
 (e0_0 (x2.1, x2.2.1, ())))
noncomputable def F169 (a0 : D84) : Option (List (D180) × Bool × Unit) :=
 (iter (F169_R2
 (fun y7 =>
 (some (y7.2.1, ((!y7.1.2.1), ()))))) fuel ((a0.2.2.1, (false, ())), [], ()))
noncomputable def C169 : Fun := ⟨[(.ro Y84)], [((.slice Y180), .z), (.bool, .z)], fun z => F169 z.1⟩
noncomputable def E169 : Env := ⟨39, tyTab tys, oneTab ones, fnTab [(213, C213), (214, C214), (215, C215)], false, [], [(2, [4, 5], []), (3, [4, 5], []), (4, [4, 5], []), (100000, [4, 5], []), (100001, [4, 5], []), (99999, [2, 3], [])], none, [], []⟩
noncomputable def L169 : List (LoopS (List (D180) × Bool × Unit)) := [⟨2, ⟨[(4, (.ptr 72 [])), (5, (.ref (.slice Y180) 80 []))], [(72, (.data true Y133 .z)), (80, (.data false (.slice Y180) (.own .z)))]⟩, fun κ => F169_R2 (fun y => κ.exit 0 (SSh.mk' ⟨[(4, (.ptr 72 [])), (5, (.ref (.slice Y180) 80 []))], [(72, (.data true Y133 .z)), (80, (.data false (.slice Y180) (.own .z)))]⟩ y))⟩]
theorem L169_2 : RoundEq E169 L169 L169[0] (nthLoop (codeOf Tryz.f169) 0) := fun κ N x => by kernel_rfl
theorem C169_ok : QuietOk Tryz.prog 169 C169 := tQ E169 L169 [nthLoop (codeOf Tryz.f169) 0] Tryz.func169 ty_ok (.consIo C213_ok (.consIo C214_ok (.consIo C215_ok .nil))) (.cons L169[0] (by kernel_rfl) L169_2 .nil)
noncomputable def F207_R2 (e0_0 : D133 × List (D84) × Unit → Option (List (D84) × Bool × Unit)) (rec : D133 × List (D84) × Unit → Option (List (D84) × Bool × Unit)) (x2 : D133 × List (D84) × Unit) : Option (List (D84) × Bool × Unit) :=
 (cond (!(x2.1.1 == []))
 (cond (!x2.1.2.1)
 (Option.bind (F215 x2.1) fun y4 =>
 (gd (decide (((List.length x2.2.1) + (List.length [y4.1])) ≤ lim))
 (rec (y4.2.1, (x2.2.1 ++ [y4.1]), ()))))
 (e0_0 (x2.1, x2.2.1, ())))
 (e0_0 (x2.1, x2.2.1, ())))
noncomputable def F207 (a0 : D84) : Option (List (D84) × Bool × Unit) :=
 (iter (F207_R2
 (fun y5 =>
 (some (y5.2.1, ((!y5.1.2.1), ()))))) fuel ((a0.2.2.1, (false, ())), [], ()))
noncomputable def C207 : Fun := ⟨[(.ro Y84)], [((.slice Y84), .z), (.bool, .z)], fun z => F207 z.1⟩
noncomputable def E207 : Env := ⟨34, tyTab tys, oneTab ones, fnTab [(215, C215)], false, [], [(2, [4, 5], []), (3, [4, 5], []), (4, [4, 5], []), (100000, [4, 5], []), (100001, [4, 5], []), (99999, [2, 3], [])], none, [], []⟩
noncomputable def L207 : List (LoopS (List (D84) × Bool × Unit)) := [⟨2, ⟨[(4, (.ptr 72 [])), (5, (.ref (.slice Y84) 80 []))], [(72, (.data true Y133 .z)), (80, (.data false (.slice Y84) (.own .z)))]⟩, fun κ => F207_R2 (fun y => κ.exit 0 (SSh.mk' ⟨[(4, (.ptr 72 [])), (5, (.ref (.slice Y84) 80 []))], [(72, (.data true Y133 .z)), (80, (.data false (.slice Y84) (.own .z)))]⟩ y))⟩]
theorem L207_2 : RoundEq E207 L207 L207[0] (nthLoop (codeOf Tryz.f207) 0) := fun κ N x => by kernel_rfl
theorem C207_ok : QuietOk Tryz.prog 207 C207 := tQ E207 L207 [nthLoop (codeOf Tryz.f207) 0] Tryz.func207 ty_ok (.consIo C215_ok .nil) (.cons L207[0] (by kernel_rfl) L207_2 .nil)
noncomputable def F256_R6 (e0_0 : Bool × List (D84) × Unit → Option (List (D84) × Bool × Unit)) (rec : List (D180) × Bool × List (D180) × Int × Int × List (D84) × Unit → Option (List (D84) × Bool × Unit)) (x5 : List (D180) × Bool × List (D180) × Int × Int × List (D84) × Unit) : Option (List (D84) × Bool × Unit) :=
 (cond (decide (x5.2.2.2.2.1 < x5.2.2.2.1))
 (gd (decide ((0 : Int) ≤ x5.2.2.2.2.1))
 (Option.bind x5.2.2.1[(Int.toNat x5.2.2.2.2.1)]? fun y7 =>
 (cond x5.2.1
 (Option.bind (F107 y7.1) fun y8 =>
 (cond y8.1
 (cond (x5.2.2.2.2.1 == (0 : Int))
 (gd (decide (((List.length x5.2.2.2.2.2.1) + (List.length [y7.2.1])) ≤ lim))
 (rec (x5.1, true, x5.2.2.1, x5.2.2.2.1, (IntKind.wrap IntKind.i64 (x5.2.2.2.2.1 + (1 : Int))), (x5.2.2.2.2.2.1 ++ [y7.2.1]), ())))
 (gd (decide ((0 : Int) ≤ (IntKind.wrap IntKind.i64 (x5.2.2.2.2.1 - (1 : Int)))))
 (Option.bind x5.1[(Int.toNat (IntKind.wrap IntKind.i64 (x5.2.2.2.2.1 - (1 : Int))))]? fun y9 =>
 (gd (decide (((List.length x5.2.2.2.2.2.1) + (List.length [y7.2.1])) ≤ lim))
 (rec (x5.1, (Op.bytesLess y9.1 y7.1), x5.2.2.1, x5.2.2.2.1, (IntKind.wrap IntKind.i64 (x5.2.2.2.2.1 + (1 : Int))), (x5.2.2.2.2.2.1 ++ [y7.2.1]), ()))))))
 (gd (decide (((List.length x5.2.2.2.2.2.1) + (List.length [y7.2.1])) ≤ lim))
 (rec (x5.1, false, x5.2.2.1, x5.2.2.2.1, (IntKind.wrap IntKind.i64 (x5.2.2.2.2.1 + (1 : Int))), (x5.2.2.2.2.2.1 ++ [y7.2.1]), ())))))
 (gd (decide (((List.length x5.2.2.2.2.2.1) + (List.length [y7.2.1])) ≤ lim))
 (rec (x5.1, false, x5.2.2.1, x5.2.2.2.1, (IntKind.wrap IntKind.i64 (x5.2.2.2.2.1 + (1 : Int))), (x5.2.2.2.2.2.1 ++ [y7.2.1]), ()))))))
 (e0_0 (x5.2.1, x5.2.2.2.2.2.1, ())))
noncomputable def F256 (a0 : D84) : Option (List (D84) × Bool × Unit) :=
 (cond (a0.1 == (4 : Int))
 (Option.bind (F207 a0) fun y1 =>
 (some (y1.1, (y1.2.1, ()))))
 (Option.bind (F169 a0) fun y2 =>
 (iter (F256_R6
 (fun y10 =>
 (some (y10.2.1, (y10.1, ()))))) fuel (y2.1, y2.2.1, y2.1, (((List.length y2.1) : Nat) : Int), (0 : Int), [], ()))))
noncomputable def C256 : Fun := ⟨[(.ro Y84)], [((.slice Y84), .z), (.bool, .z)], fun z => F256 z.1⟩
noncomputable def E256 : Env := ⟨58, tyTab tys, oneTab ones, fnTab [(107, C107), (169, C169), (207, C207)], false, [], [(3, [1], []), (6, [4, 5, 6, 22, 23, 24], []), (7, [4, 5, 6, 22, 23, 24], []), (11, [5, 6], []), (100000, [5, 6], []), (100001, [4, 5, 6, 22, 23, 24], []), (99999, [2, 3], [])], none, [], []⟩
noncomputable def L256 : List (LoopS (List (D84) × Bool × Unit)) := [⟨6, ⟨[(4, (.pv (.slice Y180))), (5, (.pv .bool)), (6, (.ref (.slice Y84) 168 [])), (22, (.pv (.slice Y180))), (23, (.pv (.int .i64))), (24, (.pv (.int .i64)))], [(168, (.data false (.slice Y84) (.own .z)))]⟩, fun κ => F256_R6 (fun y => κ.exit 0 (SSh.mk' ⟨[(5, (.pv .bool)), (6, (.ref (.slice Y84) 168 []))], [(168, (.data false (.slice Y84) (.own .z)))]⟩ y))⟩]
theorem L256_6 : RoundEq E256 L256 L256[0] (nthLoop (codeOf Tryz.f256) 0) := fun κ N x => by kernel_rfl
theorem C256_ok : QuietOk Tryz.prog 256 C256 := tQ E256 L256 [nthLoop (codeOf Tryz.f256) 0] Tryz.func256 ty_ok (.cons C107_ok (.cons C169_ok (.cons C207_ok .nil))) (.cons L256[0] (by kernel_rfl) L256_6 .nil)
abbrev G232 : Type := (D84) → (Int) → Option (Bool × Unit)
noncomputable def H232 (g : G232) : Fun := ⟨[(.ro Y84), (.ro (.int .i64))], [(.bool, .z)], fun z => g z.1 z.2.1⟩
noncomputable def B257 (g : G232) (a0 : D84) (a1 : Int) : Option (Bool × Unit) :=
 (Option.bind (g a0 (IntKind.wrap IntKind.i64 (a1 - (1 : Int)))) fun y0 =>
 (some ((!y0.1), ())))
noncomputable def K257 (g : G232) : Fun := ⟨[(.ro Y84), (.rp (.int .i64))], [(.bool, .z)], fun z => B257 g z.1 z.2.1⟩
noncomputable def E257 (g : G232) : Env := ⟨9, tyTab tys, oneTab ones, fnTab [(232, (H232 g))], false, [], [(99999, [3], [])], none, [], []⟩
noncomputable def L257 (g : G232) : List (LoopS (Bool × Unit)) := []
theorem K257_ok (g : G232) (hg : QuietOk Tryz.prog 232 (H232 g)) : QuietOk Tryz.prog 257 (K257 g) := tQ (E257 g) (L257 g) [] Tryz.func257 ty_ok (.cons hg .nil) .nil
noncomputable def B232 (g : G232) (a0 : D84) (a1 : Int) : Option (Bool × Unit) :=
 (let j8 : Unit → Option (Bool × Unit) := fun (y9 : Unit) =>
 (some (false, ()))
 (cond (a0.1 == (0 : Int))
 (some (((decide (a0.1 = (0 : Int))) && ((decide (a0.2.1 = (0 : Int))) && ((a0.2.2.1 == []) && true))), ()))
 (cond (a0.1 == (1 : Int))
 (Option.bind (F105 a0.2.1 (0 : Int) (1 : Int)) fun y1 =>
 (cond y1.1
 (some ((a0.2.2.1 == []), ()))
 (some (false, ()))))
 (cond (a0.1 == (2 : Int))
 (Option.bind (F255 a0.2.1) fun y2 =>
 (cond y2.1
 (some ((a0.2.2.1 == []), ()))
 (some (false, ()))))
 (cond (a0.1 == (3 : Int))
 (cond (a0.2.1 == (0 : Int))
 (some ((decide ((((List.length a0.2.2.1) : Nat) : Int) ≤ (300 : Int))), ()))
 (some (false, ())))
 (cond (a0.1 == (4 : Int))
 (cond (a0.1 == (4 : Int))
 (Option.bind (F256 a0) fun y4 =>
 (cond (a0.2.1 == (0 : Int))
 (cond (decide ((((List.length a0.2.2.1) : Nat) : Int) ≤ (300 : Int)))
 (cond (decide (a1 > (0 : Int)))
 (cond y4.2.1
 (Option.bind (F201 y4.1 (fun (v6 : D84) => (Option.map (fun (v7 : (Bool × Unit)) => v7.1) (B257 g v6 a1)))) fun y5 =>
 (some ((!y5.1), ())))
 (some (false, ())))
 (some (false, ())))
 (some (false, ())))
 (some (false, ()))))
 (j8 (())))
 (cond (a0.1 == (5 : Int))
 (Option.bind (F256 a0) fun y6 =>
 (cond (a0.2.1 == (0 : Int))
 (cond (decide ((((List.length a0.2.2.1) : Nat) : Int) ≤ (300 : Int)))
 (cond (decide (a1 > (0 : Int)))
 (cond y6.2.1
 (Option.bind (F201 y6.1 (fun (v6 : D84) => (Option.map (fun (v7 : (Bool × Unit)) => v7.1) (B257 g v6 a1)))) fun y7 =>
 (some ((!y7.1), ())))
 (some (false, ())))
 (some (false, ())))
 (some (false, ())))
 (some (false, ()))))
 (j8 (())))))))))
noncomputable def K232 (g : G232) : Fun := ⟨[(.ro Y84), (.ro (.int .i64))], [(.bool, .z)], fun z => B232 g z.1 z.2.1⟩
noncomputable def E232 (g : G232) : Env := ⟨75, tyTab tys, oneTab ones, fnTab [(105, C105), (201, C201), (255, C255), (256, C256), (257, (K257 g))], false, [], [(14, [], []), (100000, [], []), (99999, [4], [])], none, [], []⟩
noncomputable def L232 (g : G232) : List (LoopS (Bool × Unit)) := []
theorem K232_ok (g : G232) (hg : QuietOk Tryz.prog 232 (H232 g)) : QuietOk Tryz.prog 232 (K232 g) := tQ (E232 g) (L232 g) [] Tryz.func232 ty_ok (.cons C105_ok (.cons C201_ok (.cons C255_ok (.cons C256_ok (.cons (K257_ok g hg) .nil))))) .nil
noncomputable def S232 : Nat → G232
  | 0 => fun _ _ => none
  | k + 1 => B232 (S232 k)
noncomputable def F232 : G232 := S232 fuel
noncomputable def C232 : Fun := H232 F232
theorem C232_all : ∀ k, QuietOk Tryz.prog 232 (H232 (S232 k))
  | 0 => QuietOk.none Tryz.func232 (by rfl) (by decide) fun _ => rfl
  | k + 1 => K232_ok (S232 k) (C232_all k)
theorem C232_ok : QuietOk Tryz.prog 232 C232 := C232_all fuel
noncomputable def F194 (a0 : D84) : Option (Bool × Unit) :=
 (Option.bind (F232 a0 (5 : Int)) fun y0 =>
 (some (y0.1, ())))
noncomputable def C194 : Fun := ⟨[(.ro Y84)], [(.bool, .z)], fun z => F194 z.1⟩
noncomputable def E194 : Env := ⟨5, tyTab tys, oneTab ones, fnTab [(232, C232)], false, [], [(99999, [2], [])], none, [], []⟩
noncomputable def L194 : List (LoopS (Bool × Unit)) := []
theorem C194_ok : QuietOk Tryz.prog 194 C194 := tQ E194 L194 [] Tryz.func194 ty_ok (.cons C232_ok .nil) .nil
noncomputable def F151 (a0 : D170) : Option (Bool × Unit) :=
 (Option.bind (F193 a0.2.1) fun y1 =>
 (cond (!y1.1)
 (some (false, ()))
 (Option.bind (F194 a0.2.2.1) fun y2 =>
 (cond (!y2.1)
 (some (false, ()))
 (cond (a0.1 == (7 : Int))
 (some ((a0.2.2.1.1 == (4 : Int)), ()))
 (cond (a0.1 == (8 : Int))
 (some ((a0.2.2.1.1 == (1 : Int)), ()))
 (cond (a0.1 == (9 : Int))
 (cond (a0.2.2.1.1 == (2 : Int))
 (Option.bind (F105 a0.2.2.1.2.1 (0 : Int) (5 : Int)) fun y4 =>
 (some (y4.1, ())))
 (some (false, ())))
 (cond (a0.1 == (10 : Int))
 (cond (a0.2.2.1.1 == (2 : Int))
 (some ((decide (a0.2.2.1.2.1 ≥ (0 : Int))), ()))
 (some (false, ())))
 (Option.bind (F105 a0.1 (1 : Int) (6 : Int)) fun y5 =>
 (some (y5.1, ())))))))))))
noncomputable def C151 : Fun := ⟨[(.ro Y170)], [(.bool, .z)], fun z => F151 z.1⟩
noncomputable def E151 : Env := ⟨54, tyTab tys, oneTab ones, fnTab [(105, C105), (193, C193), (194, C194)], false, [], [(3, [1], []), (12, [1], []), (100000, [1], []), (99999, [2], [])], none, [], []⟩
noncomputable def L151 : List (LoopS (Bool × Unit)) := []
theorem C151_ok : QuietOk Tryz.prog 151 C151 := tQ E151 L151 [] Tryz.func151 ty_ok (.cons C105_ok (.cons C193_ok (.cons C194_ok .nil))) .nil
noncomputable def F150 (a0 : D170) : Option (Bool × Unit) :=
 (Option.bind (F151 a0) fun y0 =>
 (some ((!y0.1), ())))
noncomputable def C150 : Fun := ⟨[(.ro Y170)], [(.bool, .z)], fun z => F150 z.1⟩
noncomputable def E150 : Env := ⟨6, tyTab tys, oneTab ones, fnTab [(151, C151)], false, [], [(99999, [2], [])], none, [], []⟩
noncomputable def L150 : List (LoopS (Bool × Unit)) := []
theorem C150_ok : QuietOk Tryz.prog 150 C150 := tQ E150 L150 [] Tryz.func150 ty_ok (.cons C151_ok .nil) .nil
noncomputable def F148 (a0 : D157) : Option (Bool × Unit) :=
 (cond (decide ((((List.length a0.1) : Nat) : Int) > (4 : Int)))
 (some (true, ()))
 (Option.bind (F149 a0.1 (fun (v2 : D170) => (Option.map (fun (v3 : (Bool × Unit)) => v3.1) (F150 v2)))) fun y0 =>
 (some (y0.1, ()))))
noncomputable def C148 : Fun := ⟨[(.ro Y157)], [(.bool, .z)], fun z => F148 z.1⟩
noncomputable def E148 : Env := ⟨12, tyTab tys, oneTab ones, fnTab [(149, C149), (150, C150)], false, [], [(99999, [2], [])], none, [], []⟩
noncomputable def L148 : List (LoopS (Bool × Unit)) := []
theorem C148_ok : QuietOk Tryz.prog 148 C148 := tQ E148 L148 [] Tryz.func148 ty_ok (.cons C149_ok (.cons C150_ok .nil)) .nil
noncomputable def F103 (a0 : D44) : Option (Bool × Unit) :=
 (Option.bind (F105 (((List.length a0.1) : Nat) : Int) (1 : Int) (3 : Int)) fun y0 =>
 (cond y0.1
 (Option.bind (F147 a0.1 (fun (v3 : D157) => (Option.map (fun (v4 : (Bool × Unit)) => v4.1) (F148 v3)))) fun y1 =>
 (some ((!y1.1), ())))
 (some (false, ()))))
noncomputable def C103 : Fun := ⟨[(.ro Y44)], [(.bool, .z)], fun z => F103 z.1⟩
noncomputable def E103 : Env := ⟨13, tyTab tys, oneTab ones, fnTab [(105, C105), (147, C147), (148, C148)], false, [], [(99999, [2], [])], none, [], []⟩
noncomputable def L103 : List (LoopS (Bool × Unit)) := []
theorem C103_ok : QuietOk Tryz.prog 103 C103 := tQ E103 L103 [] Tryz.func103 ty_ok (.cons C105_ok (.cons C147_ok (.cons C148_ok .nil))) .nil
noncomputable def F126 (a0 : D103) : Option (Bool × Unit) :=
 (Option.bind (F107 a0.1) fun y0 =>
 (cond y0.1
 (Option.bind (F103 a0.2.1) fun y1 =>
 (some (y1.1, ())))
 (some (false, ()))))
noncomputable def C126 : Fun := ⟨[(.ro Y103)], [(.bool, .z)], fun z => F126 z.1⟩
noncomputable def E126 : Env := ⟨11, tyTab tys, oneTab ones, fnTab [(103, C103), (107, C107)], false, [], [(99999, [2], [])], none, [], []⟩
noncomputable def L126 : List (LoopS (Bool × Unit)) := []
theorem C126_ok : QuietOk Tryz.prog 126 C126 := tQ E126 L126 [] Tryz.func126 ty_ok (.cons C103_ok (.cons C107_ok .nil)) .nil
noncomputable def F125 (a0 : D103) : Option (Bool × Unit) :=
 (Option.bind (F126 a0) fun y0 =>
 (some ((!y0.1), ())))
noncomputable def C125 : Fun := ⟨[(.ro Y103)], [(.bool, .z)], fun z => F125 z.1⟩
noncomputable def E125 : Env := ⟨6, tyTab tys, oneTab ones, fnTab [(126, C126)], false, [], [(99999, [2], [])], none, [], []⟩
noncomputable def L125 : List (LoopS (Bool × Unit)) := []
theorem C125_ok : QuietOk Tryz.prog 125 C125 := tQ E125 L125 [] Tryz.func125 ty_ok (.cons C126_ok .nil) .nil
noncomputable def F81 (a0 : List (D103)) : Option (Bool × Unit) :=
 (Option.bind (F124 a0 (fun (v2 : D103) => (Option.map (fun (v3 : (Bool × Unit)) => v3.1) (F125 v2)))) fun y0 =>
 (some ((!y0.1), ())))
noncomputable def C81 : Fun := ⟨[(.ro (.slice Y103))], [(.bool, .z)], fun z => F81 z.1⟩
noncomputable def E81 : Env := ⟨6, tyTab tys, oneTab ones, fnTab [(124, C124), (125, C125)], false, [], [(99999, [2], [])], none, [], []⟩
noncomputable def L81 : List (LoopS (Bool × Unit)) := []
theorem C81_ok : QuietOk Tryz.prog 81 C81 := tQ E81 L81 [] Tryz.func81 ty_ok (.cons C124_ok (.cons C125_ok .nil)) .nil
noncomputable def F248 (a0 : List UInt8) (a1 : List UInt8) : Option (Int × Unit) :=
 (Option.bind (F264 a0 a1) fun y0 =>
 (some (y0.1, ())))
noncomputable def C248 : Fun := ⟨[(.ro .str), (.ro .str)], [((.int .i64), .z)], fun z => F248 z.1 z.2.1⟩
noncomputable def E248 : Env := ⟨8, tyTab tys, oneTab ones, fnTab [], false, [], [(99999, [4], [])], none, [(264, C264)], []⟩
noncomputable def L248 : List (LoopS (Int × Unit)) := []
theorem C248_ok : QuietOk Tryz.prog 248 C248 := tQ E248 L248 [] Tryz.func248 ty_ok .nil .nil (hx := (.cons C264_ok .nil))
noncomputable def F211 (a0 : List UInt8) (a1 : List UInt8) : Option (Int × Unit) :=
 (Option.bind (F248 a0 a1) fun y0 =>
 (some (y0.1, ())))
noncomputable def C211 : Fun := ⟨[(.ro .str), (.ro .str)], [((.int .i64), .z)], fun z => F211 z.1 z.2.1⟩
noncomputable def E211 : Env := ⟨8, tyTab tys, oneTab ones, fnTab [(248, C248)], false, [], [(99999, [4], [])], none, [], []⟩
noncomputable def L211 : List (LoopS (Int × Unit)) := []
theorem C211_ok : QuietOk Tryz.prog 211 C211 := tQ E211 L211 [] Tryz.func211 ty_ok (.cons C248_ok .nil) .nil
noncomputable def F234 (a0 : D180) (a1 : List UInt8) : Option (Int × Unit) :=
 (Option.bind (F211 a0.1 a1) fun y0 =>
 (some (y0.1, ())))
noncomputable def C234 : Fun := ⟨[(.ro Y180), (.ro .str)], [((.int .i64), .z)], fun z => F234 z.1 z.2.1⟩
noncomputable def E234 : Env := ⟨9, tyTab tys, oneTab ones, fnTab [(211, C211)], false, [], [(99999, [4], [])], none, [], []⟩
noncomputable def L234 : List (LoopS (Int × Unit)) := []
theorem C234_ok : QuietOk Tryz.prog 234 C234 := tQ E234 L234 [] Tryz.func234 ty_ok (.cons C211_ok .nil) .nil
noncomputable def F233_R3 (e0_0 : List (D180) × List UInt8 × Int × Int × Unit → Option (Int × Bool × Unit)) (rec : List (D180) × List UInt8 × Int × Int × Int × Unit → Option (Int × Bool × Unit)) (x2 : List (D180) × List UInt8 × Int × Int × Int × Unit) : Option (Int × Bool × Unit) :=
 (cond (decide (x2.2.2.2.1 < x2.2.2.2.2.1))
 (gd (decide ((0 : Int) ≤ (IntKind.wrap IntKind.i64 (Int.fdiv (IntKind.wrap IntKind.u64 (IntKind.wrap IntKind.i64 (x2.2.2.2.1 + x2.2.2.2.2.1))) ((2 : Int) ^ (Min.min (Int.toNat (1 : Int)) (IntKind.bits IntKind.u64)))))))
 (Option.bind x2.1[(Int.toNat (IntKind.wrap IntKind.i64 (Int.fdiv (IntKind.wrap IntKind.u64 (IntKind.wrap IntKind.i64 (x2.2.2.2.1 + x2.2.2.2.2.1))) ((2 : Int) ^ (Min.min (Int.toNat (1 : Int)) (IntKind.bits IntKind.u64))))))]? fun y4 =>
 (Option.bind (F234 y4 x2.2.1) fun y5 =>
 (cond (decide (y5.1 < (0 : Int)))
 (rec (x2.1, x2.2.1, x2.2.2.1, (IntKind.wrap IntKind.i64 ((IntKind.wrap IntKind.i64 (Int.fdiv (IntKind.wrap IntKind.u64 (IntKind.wrap IntKind.i64 (x2.2.2.2.1 + x2.2.2.2.2.1))) ((2 : Int) ^ (Min.min (Int.toNat (1 : Int)) (IntKind.bits IntKind.u64))))) + (1 : Int))), x2.2.2.2.2.1, ()))
 (rec (x2.1, x2.2.1, x2.2.2.1, x2.2.2.2.1, (IntKind.wrap IntKind.i64 (Int.fdiv (IntKind.wrap IntKind.u64 (IntKind.wrap IntKind.i64 (x2.2.2.2.1 + x2.2.2.2.2.1))) ((2 : Int) ^ (Min.min (Int.toNat (1 : Int)) (IntKind.bits IntKind.u64))))), ()))))))
 (e0_0 (x2.1, x2.2.1, x2.2.2.1, x2.2.2.2.1, ())))
noncomputable def F233 (a0 : List (D180)) (a1 : List UInt8) (a2 : (Unit)) : Option (Int × Bool × Unit) :=
 (iter (F233_R3
 (fun y6 =>
 (cond (decide (y6.2.2.2.1 < y6.2.2.1))
 (gd (decide ((0 : Int) ≤ y6.2.2.2.1))
 (Option.bind y6.1[(Int.toNat y6.2.2.2.1)]? fun y7 =>
 (Option.bind (F234 y7 y6.2.1) fun y8 =>
 (some (y6.2.2.2.1, ((y8.1 == (0 : Int)), ()))))))
 (some (y6.2.2.2.1, (false, ())))))) fuel (a0, a1, (((List.length a0) : Nat) : Int), (0 : Int), (((List.length a0) : Nat) : Int), ()))
noncomputable def C233 : Fun := ⟨[(.ro (.slice Y180)), (.ro .str), (.st 234 [])], [((.int .i64), .z), (.bool, .z)], fun z => F233 z.1 z.2.1 z.2.2.1⟩
noncomputable def E233 : Env := ⟨49, tyTab tys, oneTab ones, fnTab [(234, C234)], false, [], [(3, [0, 1, 2, 8, 9, 10], []), (4, [0, 1, 2, 8, 9, 10], []), (8, [0, 1, 2, 8, 9], []), (100000, [0, 1, 2, 8, 9], []), (100001, [0, 1, 2, 8, 9, 10], []), (99999, [6, 7], [])], none, [], []⟩
noncomputable def L233 : List (LoopS (Int × Bool × Unit)) := [⟨3, ⟨[(0, (.pv (.slice Y180))), (1, (.pv .str)), (2, (.clo 234 [])), (8, (.pv (.int .i64))), (9, (.pv (.int .i64))), (10, (.pv (.int .i64)))], []⟩, fun κ => F233_R3 (fun y => κ.exit 0 (SSh.mk' ⟨[(0, (.pv (.slice Y180))), (1, (.pv .str)), (2, (.clo 234 [])), (8, (.pv (.int .i64))), (9, (.pv (.int .i64)))], []⟩ y))⟩]
theorem L233_3 : RoundEq E233 L233 L233[0] (nthLoop (codeOf Tryz.f233) 0) := fun κ N x => by kernel_rfl
theorem C233_ok : QuietOk Tryz.prog 233 C233 := tQ E233 L233 [nthLoop (codeOf Tryz.f233) 0] Tryz.func233 ty_ok (.cons C234_ok .nil) (.cons L233[0] (by kernel_rfl) L233_3 .nil)
noncomputable def F199 (a0 : List (D180)) (a1 : List UInt8) : Option (Int × Bool × Unit) :=
 (Option.bind (F233 a0 a1 ()) fun y0 =>
 (some (y0.1, (y0.2.1, ()))))
noncomputable def C199 : Fun := ⟨[(.ro (.slice Y180)), (.ro .str)], [((.int .i64), .z), (.bool, .z)], fun z => F199 z.1 z.2.1⟩
noncomputable def E199 : Env := ⟨11, tyTab tys, oneTab ones, fnTab [(233, C233), (234, C234)], false, [], [(99999, [4, 5], [])], none, [], []⟩
noncomputable def L199 : List (LoopS (Int × Bool × Unit)) := []
theorem C199_ok : QuietOk Tryz.prog 199 C199 := tQ E199 L199 [] Tryz.func199 ty_ok (.cons C233_ok (.cons C234_ok .nil)) .nil
noncomputable def F159 (a0 : D84) (a1 : List UInt8) : Option (D84 × Bool × Unit) :=
 (Option.bind (F169 a0) fun y0 =>
 (Option.bind (F199 y0.1 a1) fun y1 =>
 (cond (!y1.2.1)
 (some (((0 : Int), ((0 : Int), ([], ()))), (false, ())))
 (gd (decide ((0 : Int) ≤ y1.1))
 (Option.bind y0.1[(Int.toNat y1.1)]? fun y3 =>
 (some (y3.2.1, (true, ()))))))))
noncomputable def C159 : Fun := ⟨[(.ro Y84), (.ro .str)], [(Y84, .z), (.bool, .z)], fun z => F159 z.1 z.2.1⟩
noncomputable def E159 : Env := ⟨29, tyTab tys, oneTab ones, fnTab [(169, C169), (199, C199)], false, [], [(5, [4, 6, 8], []), (99999, [4, 5], [])], none, [], []⟩
noncomputable def L159 : List (LoopS (D84 × Bool × Unit)) := []
theorem C159_ok : QuietOk Tryz.prog 159 C159 := tQ E159 L159 [] Tryz.func159 ty_ok (.cons C169_ok (.cons C199_ok .nil)) .nil
noncomputable def F109 (a0 : D84) : Option (Int × Bool × Unit) :=
 (Option.bind (F159 a0 [(105 : UInt8), (100 : UInt8)]) fun y0 =>
 (cond (y0.1.1 == (2 : Int))
 (Option.bind (F105 y0.1.2.1 (0 : Int) (99 : Int)) fun y1 =>
 (some (y0.1.2.1, (y1.1, ()))))
 (some (y0.1.2.1, (false, ())))))
noncomputable def C109 : Fun := ⟨[(.ro Y84)], [((.int .i64), .z), (.bool, .z)], fun z => F109 z.1⟩
noncomputable def E109 : Env := ⟨21, tyTab tys, oneTab ones, fnTab [(105, C105), (159, C159)], false, [], [(99999, [2, 3], [])], none, [], []⟩
noncomputable def L109 : List (LoopS (Int × Bool × Unit)) := []
theorem C109_ok : QuietOk Tryz.prog 109 C109 := tQ E109 L109 [] Tryz.func109 ty_ok (.cons C105_ok (.cons C159_ok .nil)) .nil
end Go.V
