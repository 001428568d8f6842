/- What functions of the program compute, printed by a program of ours. No condition. -/
import Derived.Test.YtaghikdjjoaebaaGreatDoorWF3
namespace Go.V
open Go.Proofs
set_option maxRecDepth 100000
set_option linter.unusedVariables false
noncomputable def F147_R3 (e0_0 : Int × Unit → Option (Int × Unit)) (er_1 : Int × Unit → Option (Int × Unit)) (rec : Int × List (Int) × Int × Int × Unit → Option (Int × Unit)) (x2 : Int × List (Int) × Int × Int × Unit) : Option (Int × Unit) :=
 (cond (decide (x2.2.2.2.1 < x2.2.2.1))
 (gd (decide ((0 : Int) ≤ x2.2.2.2.1))
 (Option.bind x2.2.1[(Int.toNat x2.2.2.2.1)]? fun y5 =>
 (cond (y5 != x2.1)
 (er_1 (y5, ()))
 (rec (x2.1, x2.2.1, x2.2.2.1, (IntKind.wrap IntKind.i64 (x2.2.2.2.1 + (1 : Int))), ())))))
 (e0_0 (x2.1, ())))
noncomputable def F147 (a0 : List (Int)) : Option (Int × Unit) :=
 (iter (F147_R3
 (fun y6 =>
 (some (y6.1, ())))
 (fun y7 =>
 (some (y7.1, ())))) fuel ((0 : Int), a0, (((List.length a0) : Nat) : Int), (0 : Int), ()))
noncomputable def C147 : Fun := ⟨[(.ro (.slice (.int .i64)))], [((.int .i64), .z)], fun z => F147 z.1⟩
noncomputable def E147 : Env := ⟨18, tyTab tys, oneTab ones, fnTab [], false, [], [(3, [3, 6, 7, 8], []), (4, [3, 6, 7, 8], []), (7, [3, 6, 7, 8], []), (8, [3], []), (100000, [3], []), (100001, [3, 6, 7, 8], []), (99999, [2], [])], none, []⟩
noncomputable def L147 : List (LoopS (Int × Unit)) := [⟨3, ⟨[(3, (.pv (.int .i64))), (6, (.pv (.slice (.int .i64)))), (7, (.pv (.int .i64))), (8, (.pv (.int .i64)))], []⟩, fun κ => F147_R3 (fun y => κ.exit 0 (SSh.mk' ⟨[(3, (.pv (.int .i64)))], []⟩ y)) (fun y => κ.ret (SSh.mk' ⟨[(2, (.pv (.int .i64)))], []⟩ y))⟩]
theorem L147_3 : RoundEq E147 L147 L147[0] (nthLoop (codeOf Tryz.f147) 0) := fun κ N x => by kernel_rfl
theorem C147_ok : QuietOk Tryz.prog 147 C147 := tQ E147 L147 [nthLoop (codeOf Tryz.f147) 0] Tryz.func147 ty_ok .nil (.cons L147[0] (by kernel_rfl) L147_3 .nil)
noncomputable def F173 (a0 : Int) : Option (Bool × Unit) :=
 (some ((a0 != a0), ()))
noncomputable def C173 : Fun := ⟨[(.ro (.int .i64))], [(.bool, .z)], fun z => F173 z.1⟩
noncomputable def E173 : Env := ⟨6, tyTab tys, oneTab ones, fnTab [], false, [], [(99999, [2], [])], none, []⟩
noncomputable def L173 : List (LoopS (Bool × Unit)) := []
theorem C173_ok : QuietOk Tryz.prog 173 C173 := tQ E173 L173 [] Tryz.func173 ty_ok .nil .nil
noncomputable def F149 (a0 : Int) (a1 : Int) : Option (Int × Unit) :=
 (Option.bind (F173 a0) fun y0 =>
 (Option.bind (F173 a1) fun y1 =>
 (cond y0.1
 (cond y1.1
 (some ((0 : Int), ()))
 (some ((-(1 : Int)), ())))
 (cond y1.1
 (some ((1 : Int), ()))
 (cond (decide (a0 < a1))
 (some ((-(1 : Int)), ()))
 (cond (decide (a0 > a1))
 (some ((1 : Int), ()))
 (some ((0 : Int), ()))))))))
noncomputable def C149 : Fun := ⟨[(.ro (.int .i64)), (.ro (.int .i64))], [((.int .i64), .z)], fun z => F149 z.1 z.2.1⟩
noncomputable def E149 : Env := ⟨20, tyTab tys, oneTab ones, fnTab [(173, C173)], false, [], [(6, [], []), (7, [0, 1, 6], []), (9, [0, 1], []), (11, [0, 1], []), (13, [], []), (99999, [4], [])], none, []⟩
noncomputable def L149 : List (LoopS (Int × Unit)) := []
theorem C149_ok : QuietOk Tryz.prog 149 C149 := tQ E149 L149 [] Tryz.func149 ty_ok (.cons C173_ok .nil) .nil
noncomputable def F109 (a0 : D89) (a1 : D89) : Option (Int × Unit) :=
 (Option.bind (F148 a0.1 a1.1) fun y0 =>
 (Option.bind (F149 a0.2.1 a1.2.1) fun y1 =>
 (Option.bind (F147 [y0.1, y1.1]) fun y2 =>
 (some (y2.1, ())))))
noncomputable def C109 : Fun := ⟨[(.ro Y89), (.ro Y89)], [((.int .i64), .z)], fun z => F109 z.1 z.2.1⟩
noncomputable def E109 : Env := ⟨17, tyTab tys, oneTab ones, fnTab [(147, C147), (148, C148), (149, C149)], false, [120], [(99999, [4], [])], none, []⟩
noncomputable def L109 : List (LoopS (Int × Unit)) := []
theorem C109_ok : QuietOk Tryz.prog 109 C109 := tQ E109 L109 [] Tryz.func109 ty_ok (.cons C147_ok (.cons C148_ok (.cons C149_ok .nil))) .nil
noncomputable def F110 (a0 : Int) (a1 : Int) : Option (Bool × Unit) :=
 (Option.bind (F40 a0 (0 : Int) (IntKind.wrap IntKind.i64 (a1 - (1 : Int)))) fun y0 =>
 (some (y0.1, ())))
noncomputable def C110 : Fun := ⟨[(.ro (.int .i64)), (.ro (.int .i64))], [(.bool, .z)], fun z => F110 z.1 z.2.1⟩
noncomputable def E110 : Env := ⟨9, tyTab tys, oneTab ones, fnTab [(40, C40)], false, [], [(99999, [4], [])], none, []⟩
noncomputable def L110 : List (LoopS (Bool × Unit)) := []
theorem C110_ok : QuietOk Tryz.prog 110 C110 := tQ E110 L110 [] Tryz.func110 ty_ok (.cons C40_ok .nil) .nil
noncomputable def F70_R2 (e0_0 : D48 × Unit → Option (Bool × Unit)) (er_1 : Bool × Unit → Option (Bool × Unit)) (rec : List (D89) × Int × Int × D48 × Unit → Option (Bool × Unit)) (x2 : List (D89) × Int × Int × D48 × Unit) : Option (Bool × Unit) :=
 (cond (decide (x2.2.2.1 < x2.2.1))
 (let j9 : List (D89) × Int × Int × D48 × Unit → Option (Bool × Unit) := fun (y10 : List (D89) × Int × Int × D48 × Unit) =>
 (rec (y10.1, y10.2.1, (IntKind.wrap IntKind.i64 (y10.2.2.1 + (1 : Int))), y10.2.2.2.1, ()))
 (gd (decide ((0 : Int) ≤ x2.2.2.1))
 (Option.bind x2.1[(Int.toNat x2.2.2.1)]? fun y5 =>
 (Option.bind (F108 y5) fun y6 =>
 (cond (!y6.1)
 (er_1 (false, ()))
 (cond (decide (x2.2.2.1 > (0 : Int)))
 (gd (decide ((0 : Int) ≤ (IntKind.wrap IntKind.i64 (x2.2.2.1 - (1 : Int)))))
 (Option.bind x2.2.2.2.1.2.2.2.1[(Int.toNat (IntKind.wrap IntKind.i64 (x2.2.2.1 - (1 : Int))))]? fun y7 =>
 (Option.bind (F109 y7 y5) fun y8 =>
 (cond (decide (y8.1 ≥ (0 : Int)))
 (er_1 (false, ()))
 (j9 (x2.1, x2.2.1, x2.2.2.1, x2.2.2.2.1, ()))))))
 (j9 (x2.1, x2.2.1, x2.2.2.1, x2.2.2.2.1, ()))))))))
 (e0_0 (x2.2.2.2.1, ())))
noncomputable def F70 (a0 : D48) : Option (Bool × Unit) :=
 (iter (F70_R2
 (fun y11 =>
 (Option.bind (F110 y11.1.1 (4 : Int)) fun y13 =>
 (cond y13.1
 (Option.bind (F40 y11.1.2.1 (0 : Int) (10000 : Int)) fun y14 =>
 (cond y14.1
 (cond (decide ((((List.length y11.1.2.2.1) : Nat) : Int) ≤ (20 : Int)))
 (Option.bind (F106 y11.1.2.2.1) fun y15 =>
 (some (y15.1, ())))
 (some (false, ())))
 (some (false, ()))))
 (some (false, ())))))
 (fun y12 =>
 (some (y12.1, ())))) fuel (a0.2.2.2.1, (((List.length a0.2.2.2.1) : Nat) : Int), (0 : Int), a0, ()))
noncomputable def C70 : Fun := ⟨[(.ro Y48)], [(.bool, .z)], fun z => F70 z.1⟩
noncomputable def E70 : Env := ⟨51, tyTab tys, oneTab ones, fnTab [(40, C40), (106, C106), (108, C108), (109, C109), (110, C110)], false, [], [(2, [1, 6, 7, 8], []), (3, [1, 6, 7, 8], []), (6, [1, 6, 7, 8], []), (7, [1], []), (100000, [1], []), (100001, [1, 6, 7, 8], []), (99999, [2], [])], none, []⟩
noncomputable def L70 : List (LoopS (Bool × Unit)) := [⟨2, ⟨[(1, (.ptr 8 [])), (6, (.pv (.slice Y89))), (7, (.pv (.int .i64))), (8, (.pv (.int .i64)))], [(8, (.data true Y48 .z))]⟩, fun κ => F70_R2 (fun y => κ.exit 0 (SSh.mk' ⟨[(1, (.ptr 8 []))], [(8, (.data true Y48 .z))]⟩ y)) (fun y => κ.ret (SSh.mk' ⟨[(2, (.pv .bool))], []⟩ y))⟩]
theorem L70_2 : RoundEq E70 L70 L70[0] (nthLoop (codeOf Tryz.f70) 0) := fun κ N x => by kernel_rfl
theorem C70_ok : QuietOk Tryz.prog 70 C70 := tQ E70 L70 [nthLoop (codeOf Tryz.f70) 0] Tryz.func70 ty_ok (.cons C40_ok (.cons C106_ok (.cons C108_ok (.cons C109_ok (.cons C110_ok .nil))))) (.cons L70[0] (by kernel_rfl) L70_2 .nil)
noncomputable def F111_R2 (e0_0 : Unit → Option (Int × Unit)) (er_1 : Int × Unit → Option (Int × Unit)) (rec : List (D89) × (D89 → Option (Bool)) × Int × Int × Unit → Option (Int × Unit)) (x2 : List (D89) × (D89 → Option (Bool)) × Int × Int × Unit) : Option (Int × Unit) :=
 (cond (decide (x2.2.2.2.1 < x2.2.2.1))
 (gd (decide ((0 : Int) ≤ x2.2.2.2.1))
 (Option.bind x2.1[(Int.toNat x2.2.2.2.1)]? fun y5 =>
 (Option.bind (x2.2.1 y5) fun y6 =>
 (cond y6
 (er_1 (x2.2.2.2.1, ()))
 (rec (x2.1, x2.2.1, x2.2.2.1, (IntKind.wrap IntKind.i64 (x2.2.2.2.1 + (1 : Int))), ()))))))
 (e0_0 (())))
noncomputable def F111 (a0 : List (D89)) (a1 : (D89 → Option (Bool))) : Option (Int × Unit) :=
 (iter (F111_R2
 (fun y7 =>
 (some ((-(1 : Int)), ())))
 (fun y8 =>
 (some (y8.1, ())))) fuel (a0, a1, (((List.length a0) : Nat) : Int), (0 : Int), ()))
noncomputable def C111 : Fun := ⟨[(.ro (.slice Y89)), (.fn Y89 .bool)], [((.int .i64), .z)], fun z => F111 z.1 z.2.1⟩
noncomputable def E111 : Env := ⟨19, tyTab tys, oneTab ones, fnTab [], false, [], [(2, [0, 1, 7, 8], []), (3, [0, 1, 7, 8], []), (6, [0, 1, 7, 8], []), (7, [], []), (100000, [], []), (100001, [0, 1, 7, 8], []), (99999, [4], [])], none, []⟩
noncomputable def L111 : List (LoopS (Int × Unit)) := [⟨2, ⟨[(0, (.pv (.slice Y89))), (1, (.fnA Y89 .bool)), (7, (.pv (.int .i64))), (8, (.pv (.int .i64)))], []⟩, fun κ => F111_R2 (fun y => κ.exit 0 (SSh.mk' ⟨[], []⟩ y)) (fun y => κ.ret (SSh.mk' ⟨[(4, (.pv (.int .i64)))], []⟩ y))⟩]
theorem L111_2 : RoundEq E111 L111 L111[0] (nthLoop (codeOf Tryz.f111) 0) := fun κ N x => by kernel_rfl
theorem C111_ok : QuietOk Tryz.prog 111 C111 := tQ E111 L111 [nthLoop (codeOf Tryz.f111) 0] Tryz.func111 ty_ok .nil (.cons L111[0] (by kernel_rfl) L111_2 .nil)
noncomputable def F71 (a0 : List (D89)) (a1 : (D89 → Option (Bool))) : Option (Bool × Unit) :=
 (Option.bind (F111 a0 a1) fun y0 =>
 (some ((decide (y0.1 ≥ (0 : Int))), ())))
noncomputable def C71 : Fun := ⟨[(.ro (.slice Y89)), (.fn Y89 .bool)], [(.bool, .z)], fun z => F71 z.1 z.2.1⟩
noncomputable def E71 : Env := ⟨9, tyTab tys, oneTab ones, fnTab [(111, C111)], false, [], [(99999, [4], [])], none, []⟩
noncomputable def L71 : List (LoopS (Bool × Unit)) := []
theorem C71_ok : QuietOk Tryz.prog 71 C71 := tQ E71 L71 [] Tryz.func71 ty_ok (.cons C111_ok .nil) .nil
noncomputable def F112_R2 (e0_0 : Unit → Option (Int × Unit)) (er_1 : Int × Unit → Option (Int × Unit)) (rec : List (D62) × (D62 → Option (Bool)) × Int × Int × Unit → Option (Int × Unit)) (x2 : List (D62) × (D62 → Option (Bool)) × Int × Int × Unit) : Option (Int × Unit) :=
 (cond (decide (x2.2.2.2.1 < x2.2.2.1))
 (gd (decide ((0 : Int) ≤ x2.2.2.2.1))
 (Option.bind x2.1[(Int.toNat x2.2.2.2.1)]? fun y5 =>
 (Option.bind (x2.2.1 y5) fun y6 =>
 (cond y6
 (er_1 (x2.2.2.2.1, ()))
 (rec (x2.1, x2.2.1, x2.2.2.1, (IntKind.wrap IntKind.i64 (x2.2.2.2.1 + (1 : Int))), ()))))))
 (e0_0 (())))
noncomputable def F112 (a0 : List (D62)) (a1 : (D62 → Option (Bool))) : Option (Int × Unit) :=
 (iter (F112_R2
 (fun y7 =>
 (some ((-(1 : Int)), ())))
 (fun y8 =>
 (some (y8.1, ())))) fuel (a0, a1, (((List.length a0) : Nat) : Int), (0 : Int), ()))
noncomputable def C112 : Fun := ⟨[(.ro (.slice Y62)), (.fn Y62 .bool)], [((.int .i64), .z)], fun z => F112 z.1 z.2.1⟩
noncomputable def E112 : Env := ⟨19, tyTab tys, oneTab ones, fnTab [], false, [], [(2, [0, 1, 7, 8], []), (3, [0, 1, 7, 8], []), (6, [0, 1, 7, 8], []), (7, [], []), (100000, [], []), (100001, [0, 1, 7, 8], []), (99999, [4], [])], none, []⟩
noncomputable def L112 : List (LoopS (Int × Unit)) := [⟨2, ⟨[(0, (.pv (.slice Y62))), (1, (.fnA Y62 .bool)), (7, (.pv (.int .i64))), (8, (.pv (.int .i64)))], []⟩, fun κ => F112_R2 (fun y => κ.exit 0 (SSh.mk' ⟨[], []⟩ y)) (fun y => κ.ret (SSh.mk' ⟨[(4, (.pv (.int .i64)))], []⟩ y))⟩]
theorem L112_2 : RoundEq E112 L112 L112[0] (nthLoop (codeOf Tryz.f112) 0) := fun κ N x => by kernel_rfl
theorem C112_ok : QuietOk Tryz.prog 112 C112 := tQ E112 L112 [nthLoop (codeOf Tryz.f112) 0] Tryz.func112 ty_ok .nil (.cons L112[0] (by kernel_rfl) L112_2 .nil)
noncomputable def F113 (a0 : D62) (a1 : List UInt8) : Option (Bool × Unit) :=
 (some ((a0.1 == a1), ()))
noncomputable def C113 : Fun := ⟨[(.ro Y62), (.rp .str)], [(.bool, .z)], fun z => F113 z.1 z.2.1⟩
noncomputable def E113 : Env := ⟨8, tyTab tys, oneTab ones, fnTab [], false, [], [(99999, [3], [])], none, []⟩
noncomputable def L113 : List (LoopS (Bool × Unit)) := []
theorem C113_ok : QuietOk Tryz.prog 113 C113 := tQ E113 L113 [] Tryz.func113 ty_ok .nil .nil
noncomputable def F73 (a0 : List (D62)) (a1 : List UInt8) : Option (Int × Unit) :=
 (Option.bind (F112 a0 (fun (v3 : D62) => (Option.map (fun (v4 : (Bool × Unit)) => v4.1) (F113 v3 a1)))) fun y0 =>
 (some (y0.1, ())))
noncomputable def C73 : Fun := ⟨[(.ro (.slice Y62)), (.ro .str)], [((.int .i64), .z)], fun z => F73 z.1 z.2.1⟩
noncomputable def E73 : Env := ⟨8, tyTab tys, oneTab ones, fnTab [(112, C112), (113, C113)], false, [], [(99999, [4], [])], none, []⟩
noncomputable def L73 : List (LoopS (Int × Unit)) := []
theorem C73_ok : QuietOk Tryz.prog 73 C73 := tQ E73 L73 [] Tryz.func73 ty_ok (.cons C112_ok (.cons C113_ok .nil)) .nil
noncomputable def F72 (a0 : D89) (a1 : D25) : Option (Bool × Unit) :=
 (Option.bind (F73 a1.1 a0.1) fun y0 =>
 (some ((decide (y0.1 < (0 : Int))), ())))
noncomputable def C72 : Fun := ⟨[(.ro Y89), (.rp Y25)], [(.bool, .z)], fun z => F72 z.1 z.2.1⟩
noncomputable def E72 : Env := ⟨10, tyTab tys, oneTab ones, fnTab [(73, C73)], false, [], [(99999, [3], [])], none, []⟩
noncomputable def L72 : List (LoopS (Bool × Unit)) := []
theorem C72_ok : QuietOk Tryz.prog 72 C72 := tQ E72 L72 [] Tryz.func72 ty_ok (.cons C73_ok .nil) .nil
noncomputable def F41_R2 (e0_0 : Unit → Option (Bool × Unit)) (er_1 : Bool × Unit → Option (Bool × Unit)) (rec : List (D48) × Int × Int × D25 × Unit → Option (Bool × Unit)) (x2 : List (D48) × Int × Int × D25 × Unit) : Option (Bool × Unit) :=
 (cond (decide (x2.2.2.1 < x2.2.1))
 (gd (decide ((0 : Int) ≤ x2.2.2.1))
 (Option.bind x2.1[(Int.toNat x2.2.2.1)]? fun y5 =>
 (let j9 : List (D48) × Int × Int × D25 × D48 × Unit → Option (Bool × Unit) := fun (y10 : List (D48) × Int × Int × D25 × D48 × Unit) =>
 (Option.bind (F71 y10.2.2.2.2.1.2.2.2.1 (fun (v11 : D89) => (Option.map (fun (v12 : (Bool × Unit)) => v12.1) (F72 v11 y10.2.2.2.1)))) fun y11 =>
 (cond y11.1
 (er_1 (false, ()))
 (rec (y10.1, y10.2.1, (IntKind.wrap IntKind.i64 (y10.2.2.1 + (1 : Int))), y10.2.2.2.1, ()))))
 (Option.bind (F70 y5) fun y7 =>
 (cond (!y7.1)
 (er_1 (false, ()))
 (cond (decide (x2.2.2.1 > (0 : Int)))
 (gd (decide ((0 : Int) ≤ (IntKind.wrap IntKind.i64 (x2.2.2.1 - (1 : Int)))))
 (Option.bind x2.2.2.2.1.2.1[(Int.toNat (IntKind.wrap IntKind.i64 (x2.2.2.1 - (1 : Int))))]? fun y8 =>
 (cond (decide (y8.1 ≥ y5.1))
 (er_1 (false, ()))
 (cond (decide (y5.2.1 > x2.2.2.2.1.2.2.2.1))
 (er_1 (false, ()))
 (j9 (x2.1, x2.2.1, x2.2.2.1, x2.2.2.2.1, y5, ()))))))
 (cond (decide (y5.2.1 > x2.2.2.2.1.2.2.2.1))
 (er_1 (false, ()))
 (j9 (x2.1, x2.2.1, x2.2.2.1, x2.2.2.2.1, y5, ())))))))))
 (e0_0 (())))
noncomputable def F41 (a0 : D25) : Option (Bool × Unit) :=
 (iter (F41_R2
 (fun y12 =>
 (some (true, ())))
 (fun y13 =>
 (some (y13.1, ())))) fuel (a0.2.1, (((List.length a0.2.1) : Nat) : Int), (0 : Int), a0, ()))
noncomputable def C41 : Fun := ⟨[(.ro Y25)], [(.bool, .z)], fun z => F41 z.1⟩
noncomputable def E41 : Env := ⟨44, tyTab tys, oneTab ones, fnTab [(70, C70), (71, C71), (72, C72)], false, [], [(2, [1, 6, 7, 8], []), (3, [1, 6, 7, 8], []), (6, [1, 4, 6, 7, 8], []), (8, [1, 6, 7, 8], []), (9, [], []), (100000, [], []), (100001, [1, 6, 7, 8], []), (99999, [2], [])], none, []⟩
noncomputable def L41 : List (LoopS (Bool × Unit)) := [⟨2, ⟨[(1, (.ptr 8 [])), (6, (.pv (.slice Y48))), (7, (.pv (.int .i64))), (8, (.pv (.int .i64)))], [(8, (.data true Y25 .z))]⟩, fun κ => F41_R2 (fun y => κ.exit 0 (SSh.mk' ⟨[], []⟩ y)) (fun y => κ.ret (SSh.mk' ⟨[(2, (.pv .bool))], []⟩ y))⟩]
theorem L41_2 : RoundEq E41 L41 L41[0] (nthLoop (codeOf Tryz.f41) 0) := fun κ N x => by kernel_rfl
theorem C41_ok : QuietOk Tryz.prog 41 C41 := tQ E41 L41 [nthLoop (codeOf Tryz.f41) 0] Tryz.func41 ty_ok (.cons C70_ok (.cons C71_ok (.cons C72_ok .nil))) (.cons L41[0] (by kernel_rfl) L41_2 .nil)
noncomputable def F74_R2 (e0_0 : Unit → Option (Int × Unit)) (er_1 : Int × Unit → Option (Int × Unit)) (rec : List (D71) × (D71 → Option (Bool)) × Int × Int × Unit → Option (Int × Unit)) (x2 : List (D71) × (D71 → Option (Bool)) × Int × Int × Unit) : Option (Int × Unit) :=
 (cond (decide (x2.2.2.2.1 < x2.2.2.1))
 (gd (decide ((0 : Int) ≤ x2.2.2.2.1))
 (Option.bind x2.1[(Int.toNat x2.2.2.2.1)]? fun y5 =>
 (Option.bind (x2.2.1 y5) fun y6 =>
 (cond y6
 (er_1 (x2.2.2.2.1, ()))
 (rec (x2.1, x2.2.1, x2.2.2.1, (IntKind.wrap IntKind.i64 (x2.2.2.2.1 + (1 : Int))), ()))))))
 (e0_0 (())))
noncomputable def F74 (a0 : List (D71)) (a1 : (D71 → Option (Bool))) : Option (Int × Unit) :=
 (iter (F74_R2
 (fun y7 =>
 (some ((-(1 : Int)), ())))
 (fun y8 =>
 (some (y8.1, ())))) fuel (a0, a1, (((List.length a0) : Nat) : Int), (0 : Int), ()))
noncomputable def C74 : Fun := ⟨[(.ro (.slice Y71)), (.fn Y71 .bool)], [((.int .i64), .z)], fun z => F74 z.1 z.2.1⟩
noncomputable def E74 : Env := ⟨19, tyTab tys, oneTab ones, fnTab [], false, [], [(2, [0, 1, 7, 8], []), (3, [0, 1, 7, 8], []), (6, [0, 1, 7, 8], []), (7, [], []), (100000, [], []), (100001, [0, 1, 7, 8], []), (99999, [4], [])], none, []⟩
noncomputable def L74 : List (LoopS (Int × Unit)) := [⟨2, ⟨[(0, (.pv (.slice Y71))), (1, (.fnA Y71 .bool)), (7, (.pv (.int .i64))), (8, (.pv (.int .i64)))], []⟩, fun κ => F74_R2 (fun y => κ.exit 0 (SSh.mk' ⟨[], []⟩ y)) (fun y => κ.ret (SSh.mk' ⟨[(4, (.pv (.int .i64)))], []⟩ y))⟩]
theorem L74_2 : RoundEq E74 L74 L74[0] (nthLoop (codeOf Tryz.f74) 0) := fun κ N x => by kernel_rfl
theorem C74_ok : QuietOk Tryz.prog 74 C74 := tQ E74 L74 [nthLoop (codeOf Tryz.f74) 0] Tryz.func74 ty_ok .nil (.cons L74[0] (by kernel_rfl) L74_2 .nil)
noncomputable def F42 (a0 : List (D71)) (a1 : (D71 → Option (Bool))) : Option (Bool × Unit) :=
 (Option.bind (F74 a0 a1) fun y0 =>
 (some ((decide (y0.1 ≥ (0 : Int))), ())))
noncomputable def C42 : Fun := ⟨[(.ro (.slice Y71)), (.fn Y71 .bool)], [(.bool, .z)], fun z => F42 z.1 z.2.1⟩
noncomputable def E42 : Env := ⟨9, tyTab tys, oneTab ones, fnTab [(74, C74)], false, [], [(99999, [4], [])], none, []⟩
noncomputable def L42 : List (LoopS (Bool × Unit)) := []
theorem C42_ok : QuietOk Tryz.prog 42 C42 := tQ E42 L42 [] Tryz.func42 ty_ok (.cons C74_ok .nil) .nil
noncomputable def F43 (a0 : D71) (a1 : D25) : Option (Bool × Unit) :=
 (some ((decide (a0.2.1 > a1.2.2.2.1)), ()))
noncomputable def C43 : Fun := ⟨[(.ro Y71), (.rp Y25)], [(.bool, .z)], fun z => F43 z.1 z.2.1⟩
noncomputable def E43 : Env := ⟨9, tyTab tys, oneTab ones, fnTab [], false, [], [(99999, [3], [])], none, []⟩
noncomputable def L43 : List (LoopS (Bool × Unit)) := []
theorem C43_ok : QuietOk Tryz.prog 43 C43 := tQ E43 L43 [] Tryz.func43 ty_ok .nil .nil
noncomputable def F20_R7 (e2_0 : List (D62) × Int × Int × D25 × Unit → Option (Bool × Unit)) (er_1 : Bool × Unit → Option (Bool × Unit)) (rec : List (D62) × Int × Int × List (D81) × Int × Int × D25 × Unit → Option (Bool × Unit)) (x12 : List (D62) × Int × Int × List (D81) × Int × Int × D25 × Unit) : Option (Bool × Unit) :=
 (cond (decide (x12.2.2.2.2.2.1 < x12.2.2.2.2.1))
 (gd (decide ((0 : Int) ≤ x12.2.2.2.2.2.1))
 (Option.bind x12.2.2.2.1[(Int.toNat x12.2.2.2.2.2.1)]? fun y15 =>
 (gd (decide ((0 : Int) ≤ (IntKind.wrap IntKind.i64 ((((List.length y15.2.1) : Nat) : Int) - (1 : Int)))))
 (Option.bind y15.2.1[(Int.toNat (IntKind.wrap IntKind.i64 ((((List.length y15.2.1) : Nat) : Int) - (1 : Int))))]? fun y16 =>
 (cond (decide (y16.1 > x12.2.2.2.2.2.2.1.2.2.2.1))
 (er_1 (false, ()))
 (rec (x12.1, x12.2.1, x12.2.2.1, x12.2.2.2.1, x12.2.2.2.2.1, (IntKind.wrap IntKind.i64 (x12.2.2.2.2.2.1 + (1 : Int))), x12.2.2.2.2.2.2.1, ())))))))
 (e2_0 (x12.1, x12.2.1, x12.2.2.1, x12.2.2.2.2.2.2.1, ())))
noncomputable def F20_R4 (e0_0 : D25 × Unit → Option (Bool × Unit)) (er_1 : Bool × Unit → Option (Bool × Unit)) (rec : List (D62) × Int × Int × D25 × Unit → Option (Bool × Unit)) (x7 : List (D62) × Int × Int × D25 × Unit) : Option (Bool × Unit) :=
 (cond (decide (x7.2.2.1 < x7.2.1))
 (gd (decide ((0 : Int) ≤ x7.2.2.1))
 (Option.bind x7.1[(Int.toNat x7.2.2.1)]? fun y10 =>
 (iter (F20_R7
 (fun y17 =>
 (rec (y17.1, y17.2.1, (IntKind.wrap IntKind.i64 (y17.2.2.1 + (1 : Int))), y17.2.2.2.1, ())))
 (fun y18 =>
 (er_1 (y18.1, ())))) fuel (x7.1, x7.2.1, x7.2.2.1, y10.2.1, (((List.length y10.2.1) : Nat) : Int), (0 : Int), x7.2.2.2.1, ()))))
 (e0_0 (x7.2.2.2.1, ())))
noncomputable def F20 (a0 : D25) : Option (Bool × Unit) :=
 (cond ((((List.length a0.1) : Nat) : Int) == (0 : Int))
 (some (false, ()))
 (Option.bind (F38 a0.1) fun y1 =>
 (cond (!y1.1)
 (some (false, ()))
 (Option.bind (F39 a0.2.2.1) fun y2 =>
 (cond (!y2.1)
 (some (false, ()))
 (Option.bind (F40 a0.2.2.2.1 (0 : Int) (10000 : Int)) fun y3 =>
 (cond (!y3.1)
 (some (false, ()))
 (Option.bind (F41 a0) fun y4 =>
 (cond (!y4.1)
 (some (false, ()))
 (iter (F20_R4
 (fun y19 =>
 (Option.bind (F42 y19.1.2.2.1 (fun (v9 : D71) => (Option.map (fun (v10 : (Bool × Unit)) => v10.1) (F43 v9 y19.1)))) fun y21 =>
 (some ((!y21.1), ()))))
 (fun y20 =>
 (some (y20.1, ())))) fuel (a0.1, (((List.length a0.1) : Nat) : Int), (0 : Int), a0, ())))))))))))
noncomputable def C20 : Fun := ⟨[(.ro Y25)], [(.bool, .z)], fun z => F20 z.1⟩
noncomputable def E20 : Env := ⟨67, tyTab tys, oneTab ones, fnTab [(38, C38), (39, C39), (40, C40), (41, C41), (42, C42), (43, C43)], false, [], [(3, [1], []), (4, [1, 35, 36, 37], []), (5, [1, 35, 36, 37], []), (7, [1, 35, 36, 37, 42, 43, 44], []), (8, [1, 35, 36, 37, 42, 43, 44], []), (11, [1, 35, 36, 37, 42, 43, 44], []), (12, [1, 35, 36, 37], []), (13, [1], []), (100000, [1], []), (100001, [1, 35, 36, 37], []), (100002, [1, 35, 36, 37], []), (100003, [1, 35, 36, 37, 42, 43, 44], []), (99999, [2], [])], none, []⟩
noncomputable def L20 : List (LoopS (Bool × Unit)) := [⟨7, ⟨[(1, (.ptr 8 [])), (35, (.pv (.slice Y62))), (36, (.pv (.int .i64))), (37, (.pv (.int .i64))), (42, (.pv (.slice Y81))), (43, (.pv (.int .i64))), (44, (.pv (.int .i64)))], [(8, (.data true Y25 .z))]⟩, fun κ => F20_R7 (fun y => κ.exit 2 (SSh.mk' ⟨[(1, (.ptr 8 [])), (35, (.pv (.slice Y62))), (36, (.pv (.int .i64))), (37, (.pv (.int .i64)))], [(8, (.data true Y25 .z))]⟩ y)) (fun y => κ.ret (SSh.mk' ⟨[(2, (.pv .bool))], []⟩ y))⟩,
  ⟨4, ⟨[(1, (.ptr 8 [])), (35, (.pv (.slice Y62))), (36, (.pv (.int .i64))), (37, (.pv (.int .i64)))], [(8, (.data true Y25 .z))]⟩, fun κ => F20_R4 (fun y => κ.exit 0 (SSh.mk' ⟨[(1, (.ptr 8 []))], [(8, (.data true Y25 .z))]⟩ y)) (fun y => κ.ret (SSh.mk' ⟨[(2, (.pv .bool))], []⟩ y))⟩]
theorem L20_7 : RoundEq E20 L20 L20[0] (nthLoop (codeOf Tryz.f20) 1) := fun κ N x => by kernel_rfl
theorem L20_4 : RoundEq E20 L20 L20[1] (nthLoop (codeOf Tryz.f20) 0) := fun κ N x => by kernel_rfl
theorem C20_ok : QuietOk Tryz.prog 20 C20 := tQ E20 L20 [nthLoop (codeOf Tryz.f20) 0, nthLoop (codeOf Tryz.f20) 1] Tryz.func20 ty_ok (.cons C38_ok (.cons C39_ok (.cons C40_ok (.cons C41_ok (.cons C42_ok (.cons C43_ok .nil)))))) (.cons L20[1] (by kernel_rfl) L20_4 (.cons L20[0] (by kernel_rfl) L20_7 .nil))
noncomputable def F7_R5 (e0_0 : List (Int) × Unit → Option (List (Int) × Int × Unit)) (rec : List (D48) × Int × Int × List (Int) × Unit → Option (List (Int) × Int × Unit)) (x4 : List (D48) × Int × Int × List (Int) × Unit) : Option (List (Int) × Int × Unit) :=
 (cond (decide (x4.2.2.1 < x4.2.1))
 (gd (decide ((0 : Int) ≤ x4.2.2.1))
 (Option.bind x4.1[(Int.toNat x4.2.2.1)]? fun y6 =>
 (gd (decide (((List.length x4.2.2.2.1) + (List.length [y6.1])) ≤ lim))
 (rec (x4.1, x4.2.1, (IntKind.wrap IntKind.i64 (x4.2.2.1 + (1 : Int))), (x4.2.2.2.1 ++ [y6.1]), ())))))
 (e0_0 (x4.2.2.2.1, ())))
noncomputable def F7 (a0 : D25) : Option (List (Int) × Int × Unit) :=
 (Option.bind (F20 a0) fun y1 =>
 (cond (!y1.1)
 (some ([], ((1 : Int), ())))
 (iter (F7_R5
 (fun y7 =>
 (some (y7.1, ((0 : Int), ()))))) fuel (a0.2.1, (((List.length a0.2.1) : Nat) : Int), (0 : Int), [], ()))))
noncomputable def C7 : Fun := ⟨[(.ro Y25)], [((.slice (.int .i64)), (.own .z)), ((.int .i64), .z)], fun z => F7 z.1⟩
noncomputable def E7 : Env := ⟨25, tyTab tys, oneTab ones, fnTab [(20, C20)], false, [], [(3, [1], []), (5, [4, 12, 13, 14], []), (6, [4, 12, 13, 14], []), (9, [4], []), (100000, [4], []), (100001, [4, 12, 13, 14], []), (99999, [2, 3], [])], none, []⟩
noncomputable def L7 : List (LoopS (List (Int) × Int × Unit)) := [⟨5, ⟨[(4, (.ref (.slice (.int .i64)) 80 [])), (12, (.pv (.slice Y48))), (13, (.pv (.int .i64))), (14, (.pv (.int .i64)))], [(80, (.data false (.slice (.int .i64)) (.own .z)))]⟩, fun κ => F7_R5 (fun y => κ.exit 0 (SSh.mk' ⟨[(4, (.ref (.slice (.int .i64)) 80 []))], [(80, (.data false (.slice (.int .i64)) (.own .z)))]⟩ y))⟩]
theorem L7_5 : RoundEq E7 L7 L7[0] (nthLoop (codeOf Tryz.f7) 0) := fun κ N x => by kernel_rfl
theorem C7_ok : FreshOk Tryz.prog 7 C7 := tF E7 L7 [nthLoop (codeOf Tryz.f7) 0] Tryz.func7 ty_ok (.cons C20_ok .nil) (.cons L7[0] (by kernel_rfl) L7_5 .nil)
noncomputable def F8_R4 (e0_0 : Unit → Option (Bool × Unit)) (er_1 : Bool × Unit → Option (Bool × Unit)) (rec : List (Int) × List (Int) × Int × Unit → Option (Bool × Unit)) (x3 : List (Int) × List (Int) × Int × Unit) : Option (Bool × Unit) :=
 (cond (decide (x3.2.2.1 < (((List.length x3.1) : Nat) : Int)))
 (gd (decide ((0 : Int) ≤ x3.2.2.1))
 (Option.bind x3.1[(Int.toNat x3.2.2.1)]? fun y6 =>
 (gd (decide ((0 : Int) ≤ x3.2.2.1))
 (Option.bind x3.2.1[(Int.toNat x3.2.2.1)]? fun y7 =>
 (cond (y6 != y7)
 (er_1 (false, ()))
 (rec (x3.1, x3.2.1, (IntKind.wrap IntKind.i64 (x3.2.2.1 + (1 : Int))), ())))))))
 (e0_0 (())))
noncomputable def F8 (a0 : List (Int)) (a1 : List (Int)) : Option (Bool × Unit) :=
 (cond ((((List.length a0) : Nat) : Int) != (((List.length a1) : Nat) : Int))
 (some (false, ()))
 (iter (F8_R4
 (fun y8 =>
 (some (true, ())))
 (fun y9 =>
 (some (y9.1, ())))) fuel (a0, a1, (0 : Int), ())))
noncomputable def C8 : Fun := ⟨[(.ro (.slice (.int .i64))), (.ro (.slice (.int .i64)))], [(.bool, .z)], fun z => F8 z.1 z.2.1⟩
noncomputable def E8 : Env := ⟨26, tyTab tys, oneTab ones, fnTab [], false, [], [(3, [0, 1], []), (4, [0, 1, 5], []), (5, [0, 1, 5], []), (6, [0, 1, 5], []), (8, [], []), (100000, [], []), (100001, [0, 1, 5], []), (99999, [4], [])], none, []⟩
noncomputable def L8 : List (LoopS (Bool × Unit)) := [⟨4, ⟨[(0, (.pv (.slice (.int .i64)))), (1, (.pv (.slice (.int .i64)))), (5, (.pv (.int .i64)))], []⟩, fun κ => F8_R4 (fun y => κ.exit 0 (SSh.mk' ⟨[], []⟩ y)) (fun y => κ.ret (SSh.mk' ⟨[(4, (.pv .bool))], []⟩ y))⟩]
theorem L8_4 : RoundEq E8 L8 L8[0] (nthLoop (codeOf Tryz.f8) 0) := fun κ N x => by kernel_rfl
theorem C8_ok : QuietOk Tryz.prog 8 C8 := tQ E8 L8 [nthLoop (codeOf Tryz.f8) 0] Tryz.func8 ty_ok .nil (.cons L8[0] (by kernel_rfl) L8_4 .nil)
noncomputable def F153 (a0 : D83) (a1 : D83) : Option (Bool × Unit) :=
 (cond (a0.1 != a1.1)
 (some (false, ()))
 (cond (a0.2.1 != a1.2.1)
 (some (false, ()))
 (cond (!(a0.2.2.1 == a1.2.2.1))
 (some (false, ()))
 (some (true, ())))))
noncomputable def C153 : Fun := ⟨[(.ro Y83), (.ro Y83)], [(.bool, .z)], fun z => F153 z.1 z.2.1⟩
noncomputable def E153 : Env := ⟨20, tyTab tys, oneTab ones, fnTab [], false, [], [(3, [2, 3], []), (5, [2, 3], []), (7, [], []), (99999, [4], [])], none, []⟩
noncomputable def L153 : List (LoopS (Bool × Unit)) := []
theorem C153_ok : QuietOk Tryz.prog 153 C153 := tQ E153 L153 [] Tryz.func153 ty_ok .nil .nil
noncomputable def F174 (a0 : D85) (a1 : D85) : Option (Bool × Unit) :=
 (cond (a0.1 != a1.1)
 (some (false, ()))
 (cond (!(a0.2.1 == a1.2.1))
 (some (false, ()))
 (Option.bind (F153 a0.2.2.1 a1.2.2.1) fun y3 =>
 (cond (!y3.1)
 (some (false, ()))
 (some (true, ()))))))
noncomputable def C174 : Fun := ⟨[(.ro Y85), (.ro Y85)], [(.bool, .z)], fun z => F174 z.1 z.2.1⟩
noncomputable def E174 : Env := ⟨21, tyTab tys, oneTab ones, fnTab [(153, C153)], false, [], [(3, [2, 3], []), (5, [2, 3], []), (7, [], []), (99999, [4], [])], none, []⟩
noncomputable def L174 : List (LoopS (Bool × Unit)) := []
theorem C174_ok : QuietOk Tryz.prog 174 C174 := tQ E174 L174 [] Tryz.func174 ty_ok (.cons C153_ok .nil) .nil
noncomputable def F150_R4 (e0_0 : Unit → Option (Bool × Unit)) (er_1 : Bool × Unit → Option (Bool × Unit)) (rec : List (D85) × List (D85) × Int × Unit → Option (Bool × Unit)) (x3 : List (D85) × List (D85) × Int × Unit) : Option (Bool × Unit) :=
 (cond (decide (x3.2.2.1 < (((List.length x3.1) : Nat) : Int)))
 (gd (decide ((0 : Int) ≤ x3.2.2.1))
 (Option.bind x3.1[(Int.toNat x3.2.2.1)]? fun y6 =>
 (gd (decide ((0 : Int) ≤ x3.2.2.1))
 (Option.bind x3.2.1[(Int.toNat x3.2.2.1)]? fun y7 =>
 (Option.bind (F174 y6 y7) fun y8 =>
 (cond (!y8.1)
 (er_1 (false, ()))
 (rec (x3.1, x3.2.1, (IntKind.wrap IntKind.i64 (x3.2.2.1 + (1 : Int))), ()))))))))
 (e0_0 (())))
noncomputable def F150 (a0 : List (D85)) (a1 : List (D85)) : Option (Bool × Unit) :=
 (cond ((((List.length a0) : Nat) : Int) != (((List.length a1) : Nat) : Int))
 (some (false, ()))
 (iter (F150_R4
 (fun y9 =>
 (some (true, ())))
 (fun y10 =>
 (some (y10.1, ())))) fuel (a0, a1, (0 : Int), ())))
noncomputable def C150 : Fun := ⟨[(.ro (.slice Y85)), (.ro (.slice Y85))], [(.bool, .z)], fun z => F150 z.1 z.2.1⟩
noncomputable def E150 : Env := ⟨27, tyTab tys, oneTab ones, fnTab [(174, C174)], false, [], [(3, [0, 1], []), (4, [0, 1, 5], []), (5, [0, 1, 5], []), (6, [0, 1, 5], []), (8, [], []), (100000, [], []), (100001, [0, 1, 5], []), (99999, [4], [])], none, []⟩
noncomputable def L150 : List (LoopS (Bool × Unit)) := [⟨4, ⟨[(0, (.pv (.slice Y85))), (1, (.pv (.slice Y85))), (5, (.pv (.int .i64)))], []⟩, fun κ => F150_R4 (fun y => κ.exit 0 (SSh.mk' ⟨[], []⟩ y)) (fun y => κ.ret (SSh.mk' ⟨[(4, (.pv .bool))], []⟩ y))⟩]
theorem L150_4 : RoundEq E150 L150 L150[0] (nthLoop (codeOf Tryz.f150) 0) := fun κ N x => by kernel_rfl
theorem C150_ok : QuietOk Tryz.prog 150 C150 := tQ E150 L150 [nthLoop (codeOf Tryz.f150) 0] Tryz.func150 ty_ok (.cons C174_ok .nil) (.cons L150[0] (by kernel_rfl) L150_4 .nil)
noncomputable def F114 (a0 : D81) (a1 : D81) : Option (Bool × Unit) :=
 (cond (a0.1 != a1.1)
 (some (false, ()))
 (Option.bind (F150 a0.2.1 a1.2.1) fun y2 =>
 (cond (!y2.1)
 (some (false, ()))
 (some (true, ())))))
noncomputable def C114 : Fun := ⟨[(.ro Y81), (.ro Y81)], [(.bool, .z)], fun z => F114 z.1 z.2.1⟩
noncomputable def E114 : Env := ⟨16, tyTab tys, oneTab ones, fnTab [(150, C150)], false, [], [(3, [2, 3], []), (5, [], []), (99999, [4], [])], none, []⟩
noncomputable def L114 : List (LoopS (Bool × Unit)) := []
theorem C114_ok : QuietOk Tryz.prog 114 C114 := tQ E114 L114 [] Tryz.func114 ty_ok (.cons C150_ok .nil) .nil
noncomputable def F75_R4 (e0_0 : Unit → Option (Bool × Unit)) (er_1 : Bool × Unit → Option (Bool × Unit)) (rec : List (D81) × List (D81) × Int × Unit → Option (Bool × Unit)) (x3 : List (D81) × List (D81) × Int × Unit) : Option (Bool × Unit) :=
 (cond (decide (x3.2.2.1 < (((List.length x3.1) : Nat) : Int)))
 (gd (decide ((0 : Int) ≤ x3.2.2.1))
 (Option.bind x3.1[(Int.toNat x3.2.2.1)]? fun y6 =>
 (gd (decide ((0 : Int) ≤ x3.2.2.1))
 (Option.bind x3.2.1[(Int.toNat x3.2.2.1)]? fun y7 =>
 (Option.bind (F114 y6 y7) fun y8 =>
 (cond (!y8.1)
 (er_1 (false, ()))
 (rec (x3.1, x3.2.1, (IntKind.wrap IntKind.i64 (x3.2.2.1 + (1 : Int))), ()))))))))
 (e0_0 (())))
noncomputable def F75 (a0 : List (D81)) (a1 : List (D81)) : Option (Bool × Unit) :=
 (cond ((((List.length a0) : Nat) : Int) != (((List.length a1) : Nat) : Int))
 (some (false, ()))
 (iter (F75_R4
 (fun y9 =>
 (some (true, ())))
 (fun y10 =>
 (some (y10.1, ())))) fuel (a0, a1, (0 : Int), ())))
noncomputable def C75 : Fun := ⟨[(.ro (.slice Y81)), (.ro (.slice Y81))], [(.bool, .z)], fun z => F75 z.1 z.2.1⟩
noncomputable def E75 : Env := ⟨27, tyTab tys, oneTab ones, fnTab [(114, C114)], false, [], [(3, [0, 1], []), (4, [0, 1, 5], []), (5, [0, 1, 5], []), (6, [0, 1, 5], []), (8, [], []), (100000, [], []), (100001, [0, 1, 5], []), (99999, [4], [])], none, []⟩
noncomputable def L75 : List (LoopS (Bool × Unit)) := [⟨4, ⟨[(0, (.pv (.slice Y81))), (1, (.pv (.slice Y81))), (5, (.pv (.int .i64)))], []⟩, fun κ => F75_R4 (fun y => κ.exit 0 (SSh.mk' ⟨[], []⟩ y)) (fun y => κ.ret (SSh.mk' ⟨[(4, (.pv .bool))], []⟩ y))⟩]
theorem L75_4 : RoundEq E75 L75 L75[0] (nthLoop (codeOf Tryz.f75) 0) := fun κ N x => by kernel_rfl
theorem C75_ok : QuietOk Tryz.prog 75 C75 := tQ E75 L75 [nthLoop (codeOf Tryz.f75) 0] Tryz.func75 ty_ok (.cons C114_ok .nil) (.cons L75[0] (by kernel_rfl) L75_4 .nil)
noncomputable def F175 (a0 : D190) (a1 : D190) : Option (Bool × Unit) :=
 (cond (!(a0.1 == a1.1))
 (some (false, ()))
 (cond (!(a0.2.1 == a1.2.1))
 (some (false, ()))
 (some (true, ()))))
noncomputable def C175 : Fun := ⟨[(.ro Y190), (.ro Y190)], [(.bool, .z)], fun z => F175 z.1 z.2.1⟩
noncomputable def E175 : Env := ⟨15, tyTab tys, oneTab ones, fnTab [], false, [], [(3, [2, 3], []), (5, [], []), (99999, [4], [])], none, []⟩
noncomputable def L175 : List (LoopS (Bool × Unit)) := []
theorem C175_ok : QuietOk Tryz.prog 175 C175 := tQ E175 L175 [] Tryz.func175 ty_ok .nil .nil
noncomputable def F151_R4 (e0_0 : Unit → Option (Bool × Unit)) (er_1 : Bool × Unit → Option (Bool × Unit)) (rec : List (D190) × List (D190) × Int × Unit → Option (Bool × Unit)) (x3 : List (D190) × List (D190) × Int × Unit) : Option (Bool × Unit) :=
 (cond (decide (x3.2.2.1 < (((List.length x3.1) : Nat) : Int)))
 (gd (decide ((0 : Int) ≤ x3.2.2.1))
 (Option.bind x3.1[(Int.toNat x3.2.2.1)]? fun y6 =>
 (gd (decide ((0 : Int) ≤ x3.2.2.1))
 (Option.bind x3.2.1[(Int.toNat x3.2.2.1)]? fun y7 =>
 (Option.bind (F175 y6 y7) fun y8 =>
 (cond (!y8.1)
 (er_1 (false, ()))
 (rec (x3.1, x3.2.1, (IntKind.wrap IntKind.i64 (x3.2.2.1 + (1 : Int))), ()))))))))
 (e0_0 (())))
noncomputable def F151 (a0 : List (D190)) (a1 : List (D190)) : Option (Bool × Unit) :=
 (cond ((((List.length a0) : Nat) : Int) != (((List.length a1) : Nat) : Int))
 (some (false, ()))
 (iter (F151_R4
 (fun y9 =>
 (some (true, ())))
 (fun y10 =>
 (some (y10.1, ())))) fuel (a0, a1, (0 : Int), ())))
noncomputable def C151 : Fun := ⟨[(.ro (.slice Y190)), (.ro (.slice Y190))], [(.bool, .z)], fun z => F151 z.1 z.2.1⟩
noncomputable def E151 : Env := ⟨27, tyTab tys, oneTab ones, fnTab [(175, C175)], false, [], [(3, [0, 1], []), (4, [0, 1, 5], []), (5, [0, 1, 5], []), (6, [0, 1, 5], []), (8, [], []), (100000, [], []), (100001, [0, 1, 5], []), (99999, [4], [])], none, []⟩
noncomputable def L151 : List (LoopS (Bool × Unit)) := [⟨4, ⟨[(0, (.pv (.slice Y190))), (1, (.pv (.slice Y190))), (5, (.pv (.int .i64)))], []⟩, fun κ => F151_R4 (fun y => κ.exit 0 (SSh.mk' ⟨[], []⟩ y)) (fun y => κ.ret (SSh.mk' ⟨[(4, (.pv .bool))], []⟩ y))⟩]
theorem L151_4 : RoundEq E151 L151 L151[0] (nthLoop (codeOf Tryz.f151) 0) := fun κ N x => by kernel_rfl
theorem C151_ok : QuietOk Tryz.prog 151 C151 := tQ E151 L151 [nthLoop (codeOf Tryz.f151) 0] Tryz.func151 ty_ok (.cons C175_ok .nil) (.cons L151[0] (by kernel_rfl) L151_4 .nil)
noncomputable def F115 (a0 : D138) (a1 : D138) : Option (Bool × Unit) :=
 (cond (!(a0.1 == a1.1))
 (some (false, ()))
 (Option.bind (F151 a0.2.1 a1.2.1) fun y2 =>
 (cond (!y2.1)
 (some (false, ()))
 (some (true, ())))))
noncomputable def C115 : Fun := ⟨[(.ro Y138), (.ro Y138)], [(.bool, .z)], fun z => F115 z.1 z.2.1⟩
noncomputable def E115 : Env := ⟨16, tyTab tys, oneTab ones, fnTab [(151, C151)], false, [], [(3, [2, 3], []), (5, [], []), (99999, [4], [])], none, []⟩
noncomputable def L115 : List (LoopS (Bool × Unit)) := []
theorem C115_ok : QuietOk Tryz.prog 115 C115 := tQ E115 L115 [] Tryz.func115 ty_ok (.cons C151_ok .nil) .nil
noncomputable def F76_R4 (e0_0 : Unit → Option (Bool × Unit)) (er_1 : Bool × Unit → Option (Bool × Unit)) (rec : List (D138) × List (D138) × Int × Unit → Option (Bool × Unit)) (x3 : List (D138) × List (D138) × Int × Unit) : Option (Bool × Unit) :=
 (cond (decide (x3.2.2.1 < (((List.length x3.1) : Nat) : Int)))
 (gd (decide ((0 : Int) ≤ x3.2.2.1))
 (Option.bind x3.1[(Int.toNat x3.2.2.1)]? fun y6 =>
 (gd (decide ((0 : Int) ≤ x3.2.2.1))
 (Option.bind x3.2.1[(Int.toNat x3.2.2.1)]? fun y7 =>
 (Option.bind (F115 y6 y7) fun y8 =>
 (cond (!y8.1)
 (er_1 (false, ()))
 (rec (x3.1, x3.2.1, (IntKind.wrap IntKind.i64 (x3.2.2.1 + (1 : Int))), ()))))))))
 (e0_0 (())))
noncomputable def F76 (a0 : List (D138)) (a1 : List (D138)) : Option (Bool × Unit) :=
 (cond ((((List.length a0) : Nat) : Int) != (((List.length a1) : Nat) : Int))
 (some (false, ()))
 (iter (F76_R4
 (fun y9 =>
 (some (true, ())))
 (fun y10 =>
 (some (y10.1, ())))) fuel (a0, a1, (0 : Int), ())))
noncomputable def C76 : Fun := ⟨[(.ro (.slice Y138)), (.ro (.slice Y138))], [(.bool, .z)], fun z => F76 z.1 z.2.1⟩
noncomputable def E76 : Env := ⟨27, tyTab tys, oneTab ones, fnTab [(115, C115)], false, [], [(3, [0, 1], []), (4, [0, 1, 5], []), (5, [0, 1, 5], []), (6, [0, 1, 5], []), (8, [], []), (100000, [], []), (100001, [0, 1, 5], []), (99999, [4], [])], none, []⟩
noncomputable def L76 : List (LoopS (Bool × Unit)) := [⟨4, ⟨[(0, (.pv (.slice Y138))), (1, (.pv (.slice Y138))), (5, (.pv (.int .i64)))], []⟩, fun κ => F76_R4 (fun y => κ.exit 0 (SSh.mk' ⟨[], []⟩ y)) (fun y => κ.ret (SSh.mk' ⟨[(4, (.pv .bool))], []⟩ y))⟩]
theorem L76_4 : RoundEq E76 L76 L76[0] (nthLoop (codeOf Tryz.f76) 0) := fun κ N x => by kernel_rfl
theorem C76_ok : QuietOk Tryz.prog 76 C76 := tQ E76 L76 [nthLoop (codeOf Tryz.f76) 0] Tryz.func76 ty_ok (.cons C115_ok .nil) (.cons L76[0] (by kernel_rfl) L76_4 .nil)
noncomputable def F44 (a0 : D62) (a1 : D62) : Option (Bool × Unit) :=
 (cond (!(a0.1 == a1.1))
 (some (false, ()))
 (Option.bind (F75 a0.2.1 a1.2.1) fun y2 =>
 (cond (!y2.1)
 (some (false, ()))
 (Option.bind (F76 a0.2.2.1 a1.2.2.1) fun y4 =>
 (cond (!y4.1)
 (some (false, ()))
 (some (true, ())))))))
noncomputable def C44 : Fun := ⟨[(.ro Y62), (.ro Y62)], [(.bool, .z)], fun z => F44 z.1 z.2.1⟩
noncomputable def E44 : Env := ⟨22, tyTab tys, oneTab ones, fnTab [(75, C75), (76, C76)], false, [], [(3, [2, 3], []), (5, [2, 3], []), (7, [], []), (99999, [4], [])], none, []⟩
noncomputable def L44 : List (LoopS (Bool × Unit)) := []
theorem C44_ok : QuietOk Tryz.prog 44 C44 := tQ E44 L44 [] Tryz.func44 ty_ok (.cons C75_ok (.cons C76_ok .nil)) .nil
noncomputable def F21_R4 (e0_0 : Unit → Option (Bool × Unit)) (er_1 : Bool × Unit → Option (Bool × Unit)) (rec : List (D62) × List (D62) × Int × Unit → Option (Bool × Unit)) (x3 : List (D62) × List (D62) × Int × Unit) : Option (Bool × Unit) :=
 (cond (decide (x3.2.2.1 < (((List.length x3.1) : Nat) : Int)))
 (gd (decide ((0 : Int) ≤ x3.2.2.1))
 (Option.bind x3.1[(Int.toNat x3.2.2.1)]? fun y6 =>
 (gd (decide ((0 : Int) ≤ x3.2.2.1))
 (Option.bind x3.2.1[(Int.toNat x3.2.2.1)]? fun y7 =>
 (Option.bind (F44 y6 y7) fun y8 =>
 (cond (!y8.1)
 (er_1 (false, ()))
 (rec (x3.1, x3.2.1, (IntKind.wrap IntKind.i64 (x3.2.2.1 + (1 : Int))), ()))))))))
 (e0_0 (())))
noncomputable def F21 (a0 : List (D62)) (a1 : List (D62)) : Option (Bool × Unit) :=
 (cond ((((List.length a0) : Nat) : Int) != (((List.length a1) : Nat) : Int))
 (some (false, ()))
 (iter (F21_R4
 (fun y9 =>
 (some (true, ())))
 (fun y10 =>
 (some (y10.1, ())))) fuel (a0, a1, (0 : Int), ())))
noncomputable def C21 : Fun := ⟨[(.ro (.slice Y62)), (.ro (.slice Y62))], [(.bool, .z)], fun z => F21 z.1 z.2.1⟩
noncomputable def E21 : Env := ⟨27, tyTab tys, oneTab ones, fnTab [(44, C44)], false, [], [(3, [0, 1], []), (4, [0, 1, 5], []), (5, [0, 1, 5], []), (6, [0, 1, 5], []), (8, [], []), (100000, [], []), (100001, [0, 1, 5], []), (99999, [4], [])], none, []⟩
noncomputable def L21 : List (LoopS (Bool × Unit)) := [⟨4, ⟨[(0, (.pv (.slice Y62))), (1, (.pv (.slice Y62))), (5, (.pv (.int .i64)))], []⟩, fun κ => F21_R4 (fun y => κ.exit 0 (SSh.mk' ⟨[], []⟩ y)) (fun y => κ.ret (SSh.mk' ⟨[(4, (.pv .bool))], []⟩ y))⟩]
theorem L21_4 : RoundEq E21 L21 L21[0] (nthLoop (codeOf Tryz.f21) 0) := fun κ N x => by kernel_rfl
theorem C21_ok : QuietOk Tryz.prog 21 C21 := tQ E21 L21 [nthLoop (codeOf Tryz.f21) 0] Tryz.func21 ty_ok (.cons C44_ok .nil) (.cons L21[0] (by kernel_rfl) L21_4 .nil)
noncomputable def F222 (a0 : D203) (a1 : D203) : Option (Bool × Unit) :=
 (cond (a0.1 != a1.1)
 (some (false, ()))
 (cond (!(a0.2.1 == a1.2.1))
 (some (false, ()))
 (Option.bind (F153 a0.2.2.1 a1.2.2.1) fun y3 =>
 (cond (!y3.1)
 (some (false, ()))
 (some (true, ()))))))
noncomputable def C222 : Fun := ⟨[(.ro Y203), (.ro Y203)], [(.bool, .z)], fun z => F222 z.1 z.2.1⟩
noncomputable def E222 : Env := ⟨21, tyTab tys, oneTab ones, fnTab [(153, C153)], false, [], [(3, [2, 3], []), (5, [2, 3], []), (7, [], []), (99999, [4], [])], none, []⟩
noncomputable def L222 : List (LoopS (Bool × Unit)) := []
theorem C222_ok : QuietOk Tryz.prog 222 C222 := tQ E222 L222 [] Tryz.func222 ty_ok (.cons C153_ok .nil) .nil
noncomputable def F206_R4 (e0_0 : Unit → Option (Bool × Unit)) (er_1 : Bool × Unit → Option (Bool × Unit)) (rec : List (D203) × List (D203) × Int × Unit → Option (Bool × Unit)) (x3 : List (D203) × List (D203) × Int × Unit) : Option (Bool × Unit) :=
 (cond (decide (x3.2.2.1 < (((List.length x3.1) : Nat) : Int)))
 (gd (decide ((0 : Int) ≤ x3.2.2.1))
 (Option.bind x3.1[(Int.toNat x3.2.2.1)]? fun y6 =>
 (gd (decide ((0 : Int) ≤ x3.2.2.1))
 (Option.bind x3.2.1[(Int.toNat x3.2.2.1)]? fun y7 =>
 (Option.bind (F222 y6 y7) fun y8 =>
 (cond (!y8.1)
 (er_1 (false, ()))
 (rec (x3.1, x3.2.1, (IntKind.wrap IntKind.i64 (x3.2.2.1 + (1 : Int))), ()))))))))
 (e0_0 (())))
noncomputable def F206 (a0 : List (D203)) (a1 : List (D203)) : Option (Bool × Unit) :=
 (cond ((((List.length a0) : Nat) : Int) != (((List.length a1) : Nat) : Int))
 (some (false, ()))
 (iter (F206_R4
 (fun y9 =>
 (some (true, ())))
 (fun y10 =>
 (some (y10.1, ())))) fuel (a0, a1, (0 : Int), ())))
noncomputable def C206 : Fun := ⟨[(.ro (.slice Y203)), (.ro (.slice Y203))], [(.bool, .z)], fun z => F206 z.1 z.2.1⟩
noncomputable def E206 : Env := ⟨27, tyTab tys, oneTab ones, fnTab [(222, C222)], false, [], [(3, [0, 1], []), (4, [0, 1, 5], []), (5, [0, 1, 5], []), (6, [0, 1, 5], []), (8, [], []), (100000, [], []), (100001, [0, 1, 5], []), (99999, [4], [])], none, []⟩
noncomputable def L206 : List (LoopS (Bool × Unit)) := [⟨4, ⟨[(0, (.pv (.slice Y203))), (1, (.pv (.slice Y203))), (5, (.pv (.int .i64)))], []⟩, fun κ => F206_R4 (fun y => κ.exit 0 (SSh.mk' ⟨[], []⟩ y)) (fun y => κ.ret (SSh.mk' ⟨[(4, (.pv .bool))], []⟩ y))⟩]
theorem L206_4 : RoundEq E206 L206 L206[0] (nthLoop (codeOf Tryz.f206) 0) := fun κ N x => by kernel_rfl
theorem C206_ok : QuietOk Tryz.prog 206 C206 := tQ E206 L206 [nthLoop (codeOf Tryz.f206) 0] Tryz.func206 ty_ok (.cons C222_ok .nil) (.cons L206[0] (by kernel_rfl) L206_4 .nil)
noncomputable def F194 (a0 : D194) (a1 : D194) : Option (Bool × Unit) :=
 (Option.bind (F206 a0.1 a1.1) fun y1 =>
 (cond (!y1.1)
 (some (false, ()))
 (some (true, ()))))
noncomputable def C194 : Fun := ⟨[(.ro Y194), (.ro Y194)], [(.bool, .z)], fun z => F194 z.1 z.2.1⟩
noncomputable def E194 : Env := ⟨11, tyTab tys, oneTab ones, fnTab [(206, C206)], false, [], [(3, [], []), (99999, [4], [])], none, []⟩
noncomputable def L194 : List (LoopS (Bool × Unit)) := []
theorem C194_ok : QuietOk Tryz.prog 194 C194 := tQ E194 L194 [] Tryz.func194 ty_ok (.cons C206_ok .nil) .nil
noncomputable def F176_R4 (e0_0 : Unit → Option (Bool × Unit)) (er_1 : Bool × Unit → Option (Bool × Unit)) (rec : List (D194) × List (D194) × Int × Unit → Option (Bool × Unit)) (x3 : List (D194) × List (D194) × Int × Unit) : Option (Bool × Unit) :=
 (cond (decide (x3.2.2.1 < (((List.length x3.1) : Nat) : Int)))
 (gd (decide ((0 : Int) ≤ x3.2.2.1))
 (Option.bind x3.1[(Int.toNat x3.2.2.1)]? fun y6 =>
 (gd (decide ((0 : Int) ≤ x3.2.2.1))
 (Option.bind x3.2.1[(Int.toNat x3.2.2.1)]? fun y7 =>
 (Option.bind (F194 y6 y7) fun y8 =>
 (cond (!y8.1)
 (er_1 (false, ()))
 (rec (x3.1, x3.2.1, (IntKind.wrap IntKind.i64 (x3.2.2.1 + (1 : Int))), ()))))))))
 (e0_0 (())))
noncomputable def F176 (a0 : List (D194)) (a1 : List (D194)) : Option (Bool × Unit) :=
 (cond ((((List.length a0) : Nat) : Int) != (((List.length a1) : Nat) : Int))
 (some (false, ()))
 (iter (F176_R4
 (fun y9 =>
 (some (true, ())))
 (fun y10 =>
 (some (y10.1, ())))) fuel (a0, a1, (0 : Int), ())))
noncomputable def C176 : Fun := ⟨[(.ro (.slice Y194)), (.ro (.slice Y194))], [(.bool, .z)], fun z => F176 z.1 z.2.1⟩
noncomputable def E176 : Env := ⟨27, tyTab tys, oneTab ones, fnTab [(194, C194)], false, [], [(3, [0, 1], []), (4, [0, 1, 5], []), (5, [0, 1, 5], []), (6, [0, 1, 5], []), (8, [], []), (100000, [], []), (100001, [0, 1, 5], []), (99999, [4], [])], none, []⟩
noncomputable def L176 : List (LoopS (Bool × Unit)) := [⟨4, ⟨[(0, (.pv (.slice Y194))), (1, (.pv (.slice Y194))), (5, (.pv (.int .i64)))], []⟩, fun κ => F176_R4 (fun y => κ.exit 0 (SSh.mk' ⟨[], []⟩ y)) (fun y => κ.ret (SSh.mk' ⟨[(4, (.pv .bool))], []⟩ y))⟩]
theorem L176_4 : RoundEq E176 L176 L176[0] (nthLoop (codeOf Tryz.f176) 0) := fun κ N x => by kernel_rfl
theorem C176_ok : QuietOk Tryz.prog 176 C176 := tQ E176 L176 [nthLoop (codeOf Tryz.f176) 0] Tryz.func176 ty_ok (.cons C194_ok .nil) (.cons L176[0] (by kernel_rfl) L176_4 .nil)
noncomputable def F152 (a0 : D117) (a1 : D117) : Option (Bool × Unit) :=
 (Option.bind (F176 a0.1 a1.1) fun y1 =>
 (cond (!y1.1)
 (some (false, ()))
 (some (true, ()))))
noncomputable def C152 : Fun := ⟨[(.ro Y117), (.ro Y117)], [(.bool, .z)], fun z => F152 z.1 z.2.1⟩
noncomputable def E152 : Env := ⟨11, tyTab tys, oneTab ones, fnTab [(176, C176)], false, [], [(3, [], []), (99999, [4], [])], none, []⟩
noncomputable def L152 : List (LoopS (Bool × Unit)) := []
theorem C152_ok : QuietOk Tryz.prog 152 C152 := tQ E152 L152 [] Tryz.func152 ty_ok (.cons C176_ok .nil) .nil
noncomputable def F116 (a0 : D119) (a1 : D119) : Option (Bool × Unit) :=
 (cond (!(a0.1 == a1.1))
 (some (false, ()))
 (Option.bind (F152 a0.2.1 a1.2.1) fun y2 =>
 (cond (!y2.1)
 (some (false, ()))
 (some (true, ())))))
noncomputable def C116 : Fun := ⟨[(.ro Y119), (.ro Y119)], [(.bool, .z)], fun z => F116 z.1 z.2.1⟩
noncomputable def E116 : Env := ⟨16, tyTab tys, oneTab ones, fnTab [(152, C152)], false, [], [(3, [2, 3], []), (5, [], []), (99999, [4], [])], none, []⟩
noncomputable def L116 : List (LoopS (Bool × Unit)) := []
theorem C116_ok : QuietOk Tryz.prog 116 C116 := tQ E116 L116 [] Tryz.func116 ty_ok (.cons C152_ok .nil) .nil
noncomputable def F77_R4 (e0_0 : Unit → Option (Bool × Unit)) (er_1 : Bool × Unit → Option (Bool × Unit)) (rec : List (D119) × List (D119) × Int × Unit → Option (Bool × Unit)) (x3 : List (D119) × List (D119) × Int × Unit) : Option (Bool × Unit) :=
 (cond (decide (x3.2.2.1 < (((List.length x3.1) : Nat) : Int)))
 (gd (decide ((0 : Int) ≤ x3.2.2.1))
 (Option.bind x3.1[(Int.toNat x3.2.2.1)]? fun y6 =>
 (gd (decide ((0 : Int) ≤ x3.2.2.1))
 (Option.bind x3.2.1[(Int.toNat x3.2.2.1)]? fun y7 =>
 (Option.bind (F116 y6 y7) fun y8 =>
 (cond (!y8.1)
 (er_1 (false, ()))
 (rec (x3.1, x3.2.1, (IntKind.wrap IntKind.i64 (x3.2.2.1 + (1 : Int))), ()))))))))
 (e0_0 (())))
noncomputable def F77 (a0 : List (D119)) (a1 : List (D119)) : Option (Bool × Unit) :=
 (cond ((((List.length a0) : Nat) : Int) != (((List.length a1) : Nat) : Int))
 (some (false, ()))
 (iter (F77_R4
 (fun y9 =>
 (some (true, ())))
 (fun y10 =>
 (some (y10.1, ())))) fuel (a0, a1, (0 : Int), ())))
noncomputable def C77 : Fun := ⟨[(.ro (.slice Y119)), (.ro (.slice Y119))], [(.bool, .z)], fun z => F77 z.1 z.2.1⟩
noncomputable def E77 : Env := ⟨27, tyTab tys, oneTab ones, fnTab [(116, C116)], false, [], [(3, [0, 1], []), (4, [0, 1, 5], []), (5, [0, 1, 5], []), (6, [0, 1, 5], []), (8, [], []), (100000, [], []), (100001, [0, 1, 5], []), (99999, [4], [])], none, []⟩
noncomputable def L77 : List (LoopS (Bool × Unit)) := [⟨4, ⟨[(0, (.pv (.slice Y119))), (1, (.pv (.slice Y119))), (5, (.pv (.int .i64)))], []⟩, fun κ => F77_R4 (fun y => κ.exit 0 (SSh.mk' ⟨[], []⟩ y)) (fun y => κ.ret (SSh.mk' ⟨[(4, (.pv .bool))], []⟩ y))⟩]
theorem L77_4 : RoundEq E77 L77 L77[0] (nthLoop (codeOf Tryz.f77) 0) := fun κ N x => by kernel_rfl
theorem C77_ok : QuietOk Tryz.prog 77 C77 := tQ E77 L77 [nthLoop (codeOf Tryz.f77) 0] Tryz.func77 ty_ok (.cons C116_ok .nil) (.cons L77[0] (by kernel_rfl) L77_4 .nil)
noncomputable def F117 (a0 : D89) (a1 : D89) : Option (Bool × Unit) :=
 (cond (!(a0.1 == a1.1))
 (some (false, ()))
 (cond (a0.2.1 != a1.2.1)
 (some (false, ()))
 (cond (!(a0.2.2.1 == a1.2.2.1))
 (some (false, ()))
 (Option.bind (F153 a0.2.2.2.1 a1.2.2.2.1) fun y4 =>
 (cond (!y4.1)
 (some (false, ()))
 (some (true, ())))))))
noncomputable def C117 : Fun := ⟨[(.ro Y89), (.ro Y89)], [(.bool, .z)], fun z => F117 z.1 z.2.1⟩
noncomputable def E117 : Env := ⟨26, tyTab tys, oneTab ones, fnTab [(153, C153)], false, [], [(3, [2, 3], []), (5, [2, 3], []), (7, [2, 3], []), (9, [], []), (99999, [4], [])], none, []⟩
noncomputable def L117 : List (LoopS (Bool × Unit)) := []
theorem C117_ok : QuietOk Tryz.prog 117 C117 := tQ E117 L117 [] Tryz.func117 ty_ok (.cons C153_ok .nil) .nil
noncomputable def F78_R4 (e0_0 : Unit → Option (Bool × Unit)) (er_1 : Bool × Unit → Option (Bool × Unit)) (rec : List (D89) × List (D89) × Int × Unit → Option (Bool × Unit)) (x3 : List (D89) × List (D89) × Int × Unit) : Option (Bool × Unit) :=
 (cond (decide (x3.2.2.1 < (((List.length x3.1) : Nat) : Int)))
 (gd (decide ((0 : Int) ≤ x3.2.2.1))
 (Option.bind x3.1[(Int.toNat x3.2.2.1)]? fun y6 =>
 (gd (decide ((0 : Int) ≤ x3.2.2.1))
 (Option.bind x3.2.1[(Int.toNat x3.2.2.1)]? fun y7 =>
 (Option.bind (F117 y6 y7) fun y8 =>
 (cond (!y8.1)
 (er_1 (false, ()))
 (rec (x3.1, x3.2.1, (IntKind.wrap IntKind.i64 (x3.2.2.1 + (1 : Int))), ()))))))))
 (e0_0 (())))
noncomputable def F78 (a0 : List (D89)) (a1 : List (D89)) : Option (Bool × Unit) :=
 (cond ((((List.length a0) : Nat) : Int) != (((List.length a1) : Nat) : Int))
 (some (false, ()))
 (iter (F78_R4
 (fun y9 =>
 (some (true, ())))
 (fun y10 =>
 (some (y10.1, ())))) fuel (a0, a1, (0 : Int), ())))
noncomputable def C78 : Fun := ⟨[(.ro (.slice Y89)), (.ro (.slice Y89))], [(.bool, .z)], fun z => F78 z.1 z.2.1⟩
noncomputable def E78 : Env := ⟨27, tyTab tys, oneTab ones, fnTab [(117, C117)], false, [], [(3, [0, 1], []), (4, [0, 1, 5], []), (5, [0, 1, 5], []), (6, [0, 1, 5], []), (8, [], []), (100000, [], []), (100001, [0, 1, 5], []), (99999, [4], [])], none, []⟩
noncomputable def L78 : List (LoopS (Bool × Unit)) := [⟨4, ⟨[(0, (.pv (.slice Y89))), (1, (.pv (.slice Y89))), (5, (.pv (.int .i64)))], []⟩, fun κ => F78_R4 (fun y => κ.exit 0 (SSh.mk' ⟨[], []⟩ y)) (fun y => κ.ret (SSh.mk' ⟨[(4, (.pv .bool))], []⟩ y))⟩]
theorem L78_4 : RoundEq E78 L78 L78[0] (nthLoop (codeOf Tryz.f78) 0) := fun κ N x => by kernel_rfl
theorem C78_ok : QuietOk Tryz.prog 78 C78 := tQ E78 L78 [nthLoop (codeOf Tryz.f78) 0] Tryz.func78 ty_ok (.cons C117_ok .nil) (.cons L78[0] (by kernel_rfl) L78_4 .nil)
noncomputable def F45 (a0 : D48) (a1 : D48) : Option (Bool × Unit) :=
 (cond (a0.1 != a1.1)
 (some (false, ()))
 (cond (a0.2.1 != a1.2.1)
 (some (false, ()))
 (Option.bind (F77 a0.2.2.1 a1.2.2.1) fun y3 =>
 (cond (!y3.1)
 (some (false, ()))
 (Option.bind (F78 a0.2.2.2.1 a1.2.2.2.1) fun y5 =>
 (cond (!y5.1)
 (some (false, ()))
 (some (true, ()))))))))
noncomputable def C45 : Fun := ⟨[(.ro Y48), (.ro Y48)], [(.bool, .z)], fun z => F45 z.1 z.2.1⟩
noncomputable def E45 : Env := ⟨27, tyTab tys, oneTab ones, fnTab [(77, C77), (78, C78)], false, [], [(3, [2, 3], []), (5, [2, 3], []), (7, [2, 3], []), (9, [], []), (99999, [4], [])], none, []⟩
noncomputable def L45 : List (LoopS (Bool × Unit)) := []
theorem C45_ok : QuietOk Tryz.prog 45 C45 := tQ E45 L45 [] Tryz.func45 ty_ok (.cons C77_ok (.cons C78_ok .nil)) .nil
end Go.V
