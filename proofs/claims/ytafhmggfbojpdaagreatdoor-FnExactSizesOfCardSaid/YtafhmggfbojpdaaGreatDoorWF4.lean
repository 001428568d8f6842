/- What functions of the program compute, printed by a program of ours. No condition. -/
import Derived.Test.YtafhmggfbojpdaaGreatDoorWF3
namespace Go.V
open Go.Proofs
set_option maxRecDepth 100000
set_option linter.unusedVariables false
noncomputable def F87_R2 (e0_0 : D89 × Unit → Option (Bool × Unit)) (er_1 : Bool × Unit → Option (Bool × Unit)) (rec : List (D162) × Int × Int × D89 × Unit → Option (Bool × Unit)) (x2 : List (D162) × Int × Int × D89 × Unit) : Option (Bool × Unit) :=
 (cond (decide (x2.2.2.1 < x2.2.1))
 (gd (decide ((0 : Int) ≤ x2.2.2.1))
 (Option.bind x2.1[(Int.toNat x2.2.2.1)]? fun y5 =>
 (gd (decide ((0 : Int) ≤ x2.2.2.1))
 (gd (decide (x2.2.2.1 ≤ (((List.length x2.2.2.2.1.2.2.2.1) : Nat) : Int)))
 (Option.bind (F121 (List.drop (Int.toNat (0 : Int)) (List.take (Int.toNat x2.2.2.1) x2.2.2.2.1.2.2.2.1)) (fun (v9 : D162) => (Option.map (fun (v10 : (Bool × Unit)) => v10.1) (F122 v9 y5)))) fun y6 =>
 (cond y6.1
 (er_1 (false, ()))
 (rec (x2.1, x2.2.1, (IntKind.wrap IntKind.i64 (x2.2.2.1 + (1 : Int))), x2.2.2.2.1, ()))))))))
 (e0_0 (x2.2.2.2.1, ())))
noncomputable def F87 (a0 : D89) : Option (Bool × Unit) :=
 (iter (F87_R2
 (fun y7 =>
 (cond (decide (y7.1.1 ≥ (0 : Int)))
 (Option.bind (F124 y7.1.2.1) fun y9 =>
 (cond y9.1
 (cond (decide (y7.1.2.1 > y7.1.1))
 (cond (decide ((((List.length y7.1.2.2.1) : Nat) : Int) ≤ (20 : Int)))
 (cond (decide ((((List.length y7.1.2.2.2.1) : Nat) : Int) ≤ (60 : Int)))
 (Option.bind (F125 y7.1.2.2.1) fun y10 =>
 (cond y10.1
 (Option.bind (F126 y7.1.2.2.2.1) fun y11 =>
 (some (y11.1, ())))
 (some (false, ()))))
 (some (false, ())))
 (some (false, ())))
 (some (false, ())))
 (some (false, ()))))
 (some (false, ()))))
 (fun y8 =>
 (some (y8.1, ())))) fuel (a0.2.2.2.1, (((List.length a0.2.2.2.1) : Nat) : Int), (0 : Int), a0, ()))
noncomputable def C87 : Fun := ⟨[(.ro Y89)], [(.bool, .z)], fun z => F87 z.1⟩
noncomputable def E87 : Env := ⟨57, tyTab tys, oneTab ones, fnTab [(121, C121), (122, C122), (124, C124), (125, C125), (126, C126)], false, [], [(2, [1, 6, 7, 8], []), (3, [1, 6, 7, 8], []), (6, [1, 6, 7, 8], []), (7, [1], []), (100000, [1], []), (100001, [1, 6, 7, 8], []), (99999, [2], [])], none, [], []⟩
noncomputable def L87 : List (LoopS (Bool × Unit)) := [⟨2, ⟨[(1, (.ptr 8 [])), (6, (.pv (.slice Y162))), (7, (.pv (.int .i64))), (8, (.pv (.int .i64)))], [(8, (.data true Y89 .z))]⟩, fun κ => F87_R2 (fun y => κ.exit 0 (SSh.mk' ⟨[(1, (.ptr 8 []))], [(8, (.data true Y89 .z))]⟩ y)) (fun y => κ.ret (SSh.mk' ⟨[(2, (.pv .bool))], []⟩ y))⟩]
theorem L87_2 : RoundEq E87 L87 L87[0] (nthLoop (codeOf Tryz.f87) 0) := fun κ N x => by kernel_rfl
theorem C87_ok : QuietOk Tryz.prog 87 C87 := tQ E87 L87 [nthLoop (codeOf Tryz.f87) 0] Tryz.func87 ty_ok (.cons C121_ok (.cons C122_ok (.cons C124_ok (.cons C125_ok (.cons C126_ok .nil))))) (.cons L87[0] (by kernel_rfl) L87_2 .nil)
noncomputable def F53_R2 (e0_0 : List (D89) × Unit → Option (Bool × Unit)) (er_1 : Bool × Unit → Option (Bool × Unit)) (rec : List (D89) × List (D89) × Int × Int × Unit → Option (Bool × Unit)) (x2 : List (D89) × List (D89) × Int × Int × Unit) : Option (Bool × Unit) :=
 (cond (decide (x2.2.2.2.1 < x2.2.2.1))
 (let j9 : List (D89) × List (D89) × Int × Int × Unit → Option (Bool × Unit) := fun (y10 : List (D89) × List (D89) × Int × Int × Unit) =>
 (rec (y10.1, y10.2.1, y10.2.2.1, (IntKind.wrap IntKind.i64 (y10.2.2.2.1 + (1 : Int))), ()))
 (gd (decide ((0 : Int) ≤ x2.2.2.2.1))
 (Option.bind x2.2.1[(Int.toNat x2.2.2.2.1)]? fun y5 =>
 (Option.bind (F87 y5) fun y6 =>
 (cond (!y6.1)
 (er_1 (false, ()))
 (cond y5.2.2.2.2.1
 (cond y5.2.2.2.2.2.1
 (er_1 (false, ()))
 (cond (decide (x2.2.2.2.1 > (0 : Int)))
 (gd (decide ((0 : Int) ≤ (IntKind.wrap IntKind.i64 (x2.2.2.2.1 - (1 : Int)))))
 (Option.bind x2.1[(Int.toNat (IntKind.wrap IntKind.i64 (x2.2.2.2.1 - (1 : Int))))]? fun y7 =>
 (cond (decide (y7.2.1 ≥ y5.2.1))
 (er_1 (false, ()))
 (j9 (x2.1, x2.2.1, x2.2.2.1, x2.2.2.2.1, ())))))
 (j9 (x2.1, x2.2.1, x2.2.2.1, x2.2.2.2.1, ()))))
 (cond (decide (x2.2.2.2.1 > (0 : Int)))
 (gd (decide ((0 : Int) ≤ (IntKind.wrap IntKind.i64 (x2.2.2.2.1 - (1 : Int)))))
 (Option.bind x2.1[(Int.toNat (IntKind.wrap IntKind.i64 (x2.2.2.2.1 - (1 : Int))))]? fun y8 =>
 (cond (decide (y8.2.1 ≥ y5.2.1))
 (er_1 (false, ()))
 (j9 (x2.1, x2.2.1, x2.2.2.1, x2.2.2.2.1, ())))))
 (j9 (x2.1, x2.2.1, x2.2.2.1, x2.2.2.2.1, ())))))))))
 (e0_0 (x2.1, ())))
noncomputable def F53 (a0 : List (D89)) : Option (Bool × Unit) :=
 (iter (F53_R2
 (fun y11 =>
 (some ((decide ((((List.length y11.1) : Nat) : Int) ≤ (30 : Int))), ())))
 (fun y12 =>
 (some (y12.1, ())))) fuel (a0, a0, (((List.length a0) : Nat) : Int), (0 : Int), ()))
noncomputable def C53 : Fun := ⟨[(.ro (.slice Y89))], [(.bool, .z)], fun z => F53 z.1⟩
noncomputable def E53 : Env := ⟨42, tyTab tys, oneTab ones, fnTab [(87, C87)], false, [], [(2, [0, 5, 6, 7], []), (3, [0, 5, 6, 7], []), (6, [0, 5, 6, 7], []), (7, [0], []), (100000, [0], []), (100001, [0, 5, 6, 7], []), (99999, [2], [])], none, [], []⟩
noncomputable def L53 : List (LoopS (Bool × Unit)) := [⟨2, ⟨[(0, (.pv (.slice Y89))), (5, (.pv (.slice Y89))), (6, (.pv (.int .i64))), (7, (.pv (.int .i64)))], []⟩, fun κ => F53_R2 (fun y => κ.exit 0 (SSh.mk' ⟨[(0, (.pv (.slice Y89)))], []⟩ y)) (fun y => κ.ret (SSh.mk' ⟨[(2, (.pv .bool))], []⟩ y))⟩]
theorem L53_2 : RoundEq E53 L53 L53[0] (nthLoop (codeOf Tryz.f53) 0) := fun κ N x => by kernel_rfl
theorem C53_ok : QuietOk Tryz.prog 53 C53 := tQ E53 L53 [nthLoop (codeOf Tryz.f53) 0] Tryz.func53 ty_ok (.cons C87_ok .nil) (.cons L53[0] (by kernel_rfl) L53_2 .nil)
noncomputable def F164_R3 (e0_0 : Int × Unit → Option (Int × Unit)) (er_1 : Int × Unit → Option (Int × Unit)) (rec : Int × List (Int) × Int × Int × Unit → Option (Int × Unit)) (x2 : Int × List (Int) × Int × Int × Unit) : Option (Int × Unit) :=
 (cond (decide (x2.2.2.2.1 < x2.2.2.1))
 (gd (decide ((0 : Int) ≤ x2.2.2.2.1))
 (Option.bind x2.2.1[(Int.toNat x2.2.2.2.1)]? fun y5 =>
 (cond (y5 != x2.1)
 (er_1 (y5, ()))
 (rec (x2.1, x2.2.1, x2.2.2.1, (IntKind.wrap IntKind.i64 (x2.2.2.2.1 + (1 : Int))), ())))))
 (e0_0 (x2.1, ())))
noncomputable def F164 (a0 : List (Int)) : Option (Int × Unit) :=
 (iter (F164_R3
 (fun y6 =>
 (some (y6.1, ())))
 (fun y7 =>
 (some (y7.1, ())))) fuel ((0 : Int), a0, (((List.length a0) : Nat) : Int), (0 : Int), ()))
noncomputable def C164 : Fun := ⟨[(.ro (.slice (.int .i64)))], [((.int .i64), .z)], fun z => F164 z.1⟩
noncomputable def E164 : Env := ⟨18, tyTab tys, oneTab ones, fnTab [], false, [], [(3, [3, 6, 7, 8], []), (4, [3, 6, 7, 8], []), (7, [3, 6, 7, 8], []), (8, [3], []), (100000, [3], []), (100001, [3, 6, 7, 8], []), (99999, [2], [])], none, [], []⟩
noncomputable def L164 : List (LoopS (Int × Unit)) := [⟨3, ⟨[(3, (.pv (.int .i64))), (6, (.pv (.slice (.int .i64)))), (7, (.pv (.int .i64))), (8, (.pv (.int .i64)))], []⟩, fun κ => F164_R3 (fun y => κ.exit 0 (SSh.mk' ⟨[(3, (.pv (.int .i64)))], []⟩ y)) (fun y => κ.ret (SSh.mk' ⟨[(2, (.pv (.int .i64)))], []⟩ y))⟩]
theorem L164_3 : RoundEq E164 L164 L164[0] (nthLoop (codeOf Tryz.f164) 0) := fun κ N x => by kernel_rfl
theorem C164_ok : QuietOk Tryz.prog 164 C164 := tQ E164 L164 [nthLoop (codeOf Tryz.f164) 0] Tryz.func164 ty_ok .nil (.cons L164[0] (by kernel_rfl) L164_3 .nil)
noncomputable def F189 (a0 : Int) : Option (Bool × Unit) :=
 (some ((a0 != a0), ()))
noncomputable def C189 : Fun := ⟨[(.ro (.int .i64))], [(.bool, .z)], fun z => F189 z.1⟩
noncomputable def E189 : Env := ⟨6, tyTab tys, oneTab ones, fnTab [], false, [], [(99999, [2], [])], none, [], []⟩
noncomputable def L189 : List (LoopS (Bool × Unit)) := []
theorem C189_ok : QuietOk Tryz.prog 189 C189 := tQ E189 L189 [] Tryz.func189 ty_ok .nil .nil
noncomputable def F166 (a0 : Int) (a1 : Int) : Option (Int × Unit) :=
 (Option.bind (F189 a0) fun y0 =>
 (Option.bind (F189 a1) fun y1 =>
 (cond y0.1
 (cond y1.1
 (some ((0 : Int), ()))
 (some ((-(1 : Int)), ())))
 (cond y1.1
 (some ((1 : Int), ()))
 (cond (decide (a0 < a1))
 (some ((-(1 : Int)), ()))
 (cond (decide (a0 > a1))
 (some ((1 : Int), ()))
 (some ((0 : Int), ()))))))))
noncomputable def C166 : Fun := ⟨[(.ro (.int .i64)), (.ro (.int .i64))], [((.int .i64), .z)], fun z => F166 z.1 z.2.1⟩
noncomputable def E166 : Env := ⟨20, tyTab tys, oneTab ones, fnTab [(189, C189)], false, [], [(6, [], []), (7, [0, 1, 6], []), (9, [0, 1], []), (11, [0, 1], []), (13, [], []), (99999, [4], [])], none, [], []⟩
noncomputable def L166 : List (LoopS (Int × Unit)) := []
theorem C166_ok : QuietOk Tryz.prog 166 C166 := tQ E166 L166 [] Tryz.func166 ty_ok (.cons C189_ok .nil) .nil
noncomputable def F128 (a0 : D101) (a1 : D101) : Option (Int × Unit) :=
 (Option.bind (F165 a0.1 a1.1) fun y0 =>
 (Option.bind (F166 a0.2.1 a1.2.1) fun y1 =>
 (Option.bind (F164 [y0.1, y1.1]) fun y2 =>
 (some (y2.1, ())))))
noncomputable def C128 : Fun := ⟨[(.ro Y101), (.ro Y101)], [((.int .i64), .z)], fun z => F128 z.1 z.2.1⟩
noncomputable def E128 : Env := ⟨17, tyTab tys, oneTab ones, fnTab [(164, C164), (165, C165), (166, C166)], false, [120], [(99999, [4], [])], none, [], []⟩
noncomputable def L128 : List (LoopS (Int × Unit)) := []
theorem C128_ok : QuietOk Tryz.prog 128 C128 := tQ E128 L128 [] Tryz.func128 ty_ok (.cons C164_ok (.cons C165_ok (.cons C166_ok .nil))) .nil
noncomputable def F129 (a0 : Int) (a1 : Int) : Option (Bool × Unit) :=
 (Option.bind (F54 a0 (0 : Int) (IntKind.wrap IntKind.i64 (a1 - (1 : Int)))) fun y0 =>
 (some (y0.1, ())))
noncomputable def C129 : Fun := ⟨[(.ro (.int .i64)), (.ro (.int .i64))], [(.bool, .z)], fun z => F129 z.1 z.2.1⟩
noncomputable def E129 : Env := ⟨9, tyTab tys, oneTab ones, fnTab [(54, C54)], false, [], [(99999, [4], [])], none, [], []⟩
noncomputable def L129 : List (LoopS (Bool × Unit)) := []
theorem C129_ok : QuietOk Tryz.prog 129 C129 := tQ E129 L129 [] Tryz.func129 ty_ok (.cons C54_ok .nil) .nil
noncomputable def F88_R2 (e0_0 : D85 × Unit → Option (Bool × Unit)) (er_1 : Bool × Unit → Option (Bool × Unit)) (rec : List (D101) × Int × Int × D85 × Unit → Option (Bool × Unit)) (x2 : List (D101) × Int × Int × D85 × Unit) : Option (Bool × Unit) :=
 (cond (decide (x2.2.2.1 < x2.2.1))
 (let j9 : List (D101) × Int × Int × D85 × Unit → Option (Bool × Unit) := fun (y10 : List (D101) × Int × Int × D85 × Unit) =>
 (rec (y10.1, y10.2.1, (IntKind.wrap IntKind.i64 (y10.2.2.1 + (1 : Int))), y10.2.2.2.1, ()))
 (gd (decide ((0 : Int) ≤ x2.2.2.1))
 (Option.bind x2.1[(Int.toNat x2.2.2.1)]? fun y5 =>
 (Option.bind (F127 y5) fun y6 =>
 (cond (!y6.1)
 (er_1 (false, ()))
 (cond (decide (x2.2.2.1 > (0 : Int)))
 (gd (decide ((0 : Int) ≤ (IntKind.wrap IntKind.i64 (x2.2.2.1 - (1 : Int)))))
 (Option.bind x2.2.2.2.1.2.2.2.1[(Int.toNat (IntKind.wrap IntKind.i64 (x2.2.2.1 - (1 : Int))))]? fun y7 =>
 (Option.bind (F128 y7 y5) fun y8 =>
 (cond (decide (y8.1 ≥ (0 : Int)))
 (er_1 (false, ()))
 (j9 (x2.1, x2.2.1, x2.2.2.1, x2.2.2.2.1, ()))))))
 (j9 (x2.1, x2.2.1, x2.2.2.1, x2.2.2.2.1, ()))))))))
 (e0_0 (x2.2.2.2.1, ())))
noncomputable def F88 (a0 : D85) : Option (Bool × Unit) :=
 (iter (F88_R2
 (fun y11 =>
 (Option.bind (F129 y11.1.1 (4 : Int)) fun y13 =>
 (cond y13.1
 (Option.bind (F54 y11.1.2.1 (0 : Int) (10000 : Int)) fun y14 =>
 (cond y14.1
 (cond (decide ((((List.length y11.1.2.2.1) : Nat) : Int) ≤ (20 : Int)))
 (Option.bind (F125 y11.1.2.2.1) fun y15 =>
 (some (y15.1, ())))
 (some (false, ())))
 (some (false, ()))))
 (some (false, ())))))
 (fun y12 =>
 (some (y12.1, ())))) fuel (a0.2.2.2.1, (((List.length a0.2.2.2.1) : Nat) : Int), (0 : Int), a0, ()))
noncomputable def C88 : Fun := ⟨[(.ro Y85)], [(.bool, .z)], fun z => F88 z.1⟩
noncomputable def E88 : Env := ⟨51, tyTab tys, oneTab ones, fnTab [(54, C54), (125, C125), (127, C127), (128, C128), (129, C129)], false, [], [(2, [1, 6, 7, 8], []), (3, [1, 6, 7, 8], []), (6, [1, 6, 7, 8], []), (7, [1], []), (100000, [1], []), (100001, [1, 6, 7, 8], []), (99999, [2], [])], none, [], []⟩
noncomputable def L88 : List (LoopS (Bool × Unit)) := [⟨2, ⟨[(1, (.ptr 8 [])), (6, (.pv (.slice Y101))), (7, (.pv (.int .i64))), (8, (.pv (.int .i64)))], [(8, (.data true Y85 .z))]⟩, fun κ => F88_R2 (fun y => κ.exit 0 (SSh.mk' ⟨[(1, (.ptr 8 []))], [(8, (.data true Y85 .z))]⟩ y)) (fun y => κ.ret (SSh.mk' ⟨[(2, (.pv .bool))], []⟩ y))⟩]
theorem L88_2 : RoundEq E88 L88 L88[0] (nthLoop (codeOf Tryz.f88) 0) := fun κ N x => by kernel_rfl
theorem C88_ok : QuietOk Tryz.prog 88 C88 := tQ E88 L88 [nthLoop (codeOf Tryz.f88) 0] Tryz.func88 ty_ok (.cons C54_ok (.cons C125_ok (.cons C127_ok (.cons C128_ok (.cons C129_ok .nil))))) (.cons L88[0] (by kernel_rfl) L88_2 .nil)
noncomputable def F130_R2 (e0_0 : Unit → Option (Int × Unit)) (er_1 : Int × Unit → Option (Int × Unit)) (rec : List (D101) × (D101 → Option (Bool)) × Int × Int × Unit → Option (Int × Unit)) (x2 : List (D101) × (D101 → Option (Bool)) × Int × Int × Unit) : Option (Int × Unit) :=
 (cond (decide (x2.2.2.2.1 < x2.2.2.1))
 (gd (decide ((0 : Int) ≤ x2.2.2.2.1))
 (Option.bind x2.1[(Int.toNat x2.2.2.2.1)]? fun y5 =>
 (Option.bind (x2.2.1 y5) fun y6 =>
 (cond y6
 (er_1 (x2.2.2.2.1, ()))
 (rec (x2.1, x2.2.1, x2.2.2.1, (IntKind.wrap IntKind.i64 (x2.2.2.2.1 + (1 : Int))), ()))))))
 (e0_0 (())))
noncomputable def F130 (a0 : List (D101)) (a1 : (D101 → Option (Bool))) : Option (Int × Unit) :=
 (iter (F130_R2
 (fun y7 =>
 (some ((-(1 : Int)), ())))
 (fun y8 =>
 (some (y8.1, ())))) fuel (a0, a1, (((List.length a0) : Nat) : Int), (0 : Int), ()))
noncomputable def C130 : Fun := ⟨[(.ro (.slice Y101)), (.fn Y101 .bool)], [((.int .i64), .z)], fun z => F130 z.1 z.2.1⟩
noncomputable def E130 : Env := ⟨19, tyTab tys, oneTab ones, fnTab [], false, [], [(2, [0, 1, 7, 8], []), (3, [0, 1, 7, 8], []), (6, [0, 1, 7, 8], []), (7, [], []), (100000, [], []), (100001, [0, 1, 7, 8], []), (99999, [4], [])], none, [], []⟩
noncomputable def L130 : List (LoopS (Int × Unit)) := [⟨2, ⟨[(0, (.pv (.slice Y101))), (1, (.fnA Y101 .bool)), (7, (.pv (.int .i64))), (8, (.pv (.int .i64)))], []⟩, fun κ => F130_R2 (fun y => κ.exit 0 (SSh.mk' ⟨[], []⟩ y)) (fun y => κ.ret (SSh.mk' ⟨[(4, (.pv (.int .i64)))], []⟩ y))⟩]
theorem L130_2 : RoundEq E130 L130 L130[0] (nthLoop (codeOf Tryz.f130) 0) := fun κ N x => by kernel_rfl
theorem C130_ok : QuietOk Tryz.prog 130 C130 := tQ E130 L130 [nthLoop (codeOf Tryz.f130) 0] Tryz.func130 ty_ok .nil (.cons L130[0] (by kernel_rfl) L130_2 .nil)
noncomputable def F89 (a0 : List (D101)) (a1 : (D101 → Option (Bool))) : Option (Bool × Unit) :=
 (Option.bind (F130 a0 a1) fun y0 =>
 (some ((decide (y0.1 ≥ (0 : Int))), ())))
noncomputable def C89 : Fun := ⟨[(.ro (.slice Y101)), (.fn Y101 .bool)], [(.bool, .z)], fun z => F89 z.1 z.2.1⟩
noncomputable def E89 : Env := ⟨9, tyTab tys, oneTab ones, fnTab [(130, C130)], false, [], [(99999, [4], [])], none, [], []⟩
noncomputable def L89 : List (LoopS (Bool × Unit)) := []
theorem C89_ok : QuietOk Tryz.prog 89 C89 := tQ E89 L89 [] Tryz.func89 ty_ok (.cons C130_ok .nil) .nil
noncomputable def F67_R2 (e0_0 : Unit → Option (Int × Unit)) (er_1 : Int × Unit → Option (Int × Unit)) (rec : List (D55) × (D55 → Option (Bool)) × Int × Int × Unit → Option (Int × Unit)) (x2 : List (D55) × (D55 → Option (Bool)) × Int × Int × Unit) : Option (Int × Unit) :=
 (cond (decide (x2.2.2.2.1 < x2.2.2.1))
 (gd (decide ((0 : Int) ≤ x2.2.2.2.1))
 (Option.bind x2.1[(Int.toNat x2.2.2.2.1)]? fun y5 =>
 (Option.bind (x2.2.1 y5) fun y6 =>
 (cond y6
 (er_1 (x2.2.2.2.1, ()))
 (rec (x2.1, x2.2.1, x2.2.2.1, (IntKind.wrap IntKind.i64 (x2.2.2.2.1 + (1 : Int))), ()))))))
 (e0_0 (())))
noncomputable def F67 (a0 : List (D55)) (a1 : (D55 → Option (Bool))) : Option (Int × Unit) :=
 (iter (F67_R2
 (fun y7 =>
 (some ((-(1 : Int)), ())))
 (fun y8 =>
 (some (y8.1, ())))) fuel (a0, a1, (((List.length a0) : Nat) : Int), (0 : Int), ()))
noncomputable def C67 : Fun := ⟨[(.ro (.slice Y55)), (.fn Y55 .bool)], [((.int .i64), .z)], fun z => F67 z.1 z.2.1⟩
noncomputable def E67 : Env := ⟨19, tyTab tys, oneTab ones, fnTab [], false, [], [(2, [0, 1, 7, 8], []), (3, [0, 1, 7, 8], []), (6, [0, 1, 7, 8], []), (7, [], []), (100000, [], []), (100001, [0, 1, 7, 8], []), (99999, [4], [])], none, [], []⟩
noncomputable def L67 : List (LoopS (Int × Unit)) := [⟨2, ⟨[(0, (.pv (.slice Y55))), (1, (.fnA Y55 .bool)), (7, (.pv (.int .i64))), (8, (.pv (.int .i64)))], []⟩, fun κ => F67_R2 (fun y => κ.exit 0 (SSh.mk' ⟨[], []⟩ y)) (fun y => κ.ret (SSh.mk' ⟨[(4, (.pv (.int .i64)))], []⟩ y))⟩]
theorem L67_2 : RoundEq E67 L67 L67[0] (nthLoop (codeOf Tryz.f67) 0) := fun κ N x => by kernel_rfl
theorem C67_ok : QuietOk Tryz.prog 67 C67 := tQ E67 L67 [nthLoop (codeOf Tryz.f67) 0] Tryz.func67 ty_ok .nil (.cons L67[0] (by kernel_rfl) L67_2 .nil)
noncomputable def F68 (a0 : D55) (a1 : List UInt8) : Option (Bool × Unit) :=
 (some ((a0.1 == a1), ()))
noncomputable def C68 : Fun := ⟨[(.ro Y55), (.rp .str)], [(.bool, .z)], fun z => F68 z.1 z.2.1⟩
noncomputable def E68 : Env := ⟨8, tyTab tys, oneTab ones, fnTab [], false, [], [(99999, [3], [])], none, [], []⟩
noncomputable def L68 : List (LoopS (Bool × Unit)) := []
theorem C68_ok : QuietOk Tryz.prog 68 C68 := tQ E68 L68 [] Tryz.func68 ty_ok .nil .nil
noncomputable def F37 (a0 : List (D55)) (a1 : List UInt8) : Option (Int × Unit) :=
 (Option.bind (F67 a0 (fun (v3 : D55) => (Option.map (fun (v4 : (Bool × Unit)) => v4.1) (F68 v3 a1)))) fun y0 =>
 (some (y0.1, ())))
noncomputable def C37 : Fun := ⟨[(.ro (.slice Y55)), (.ro .str)], [((.int .i64), .z)], fun z => F37 z.1 z.2.1⟩
noncomputable def E37 : Env := ⟨8, tyTab tys, oneTab ones, fnTab [(67, C67), (68, C68)], false, [], [(99999, [4], [])], none, [], []⟩
noncomputable def L37 : List (LoopS (Int × Unit)) := []
theorem C37_ok : QuietOk Tryz.prog 37 C37 := tQ E37 L37 [] Tryz.func37 ty_ok (.cons C67_ok (.cons C68_ok .nil)) .nil
noncomputable def F90 (a0 : D101) (a1 : D25) : Option (Bool × Unit) :=
 (Option.bind (F37 a1.1 a0.1) fun y0 =>
 (some ((decide (y0.1 < (0 : Int))), ())))
noncomputable def C90 : Fun := ⟨[(.ro Y101), (.rp Y25)], [(.bool, .z)], fun z => F90 z.1 z.2.1⟩
noncomputable def E90 : Env := ⟨10, tyTab tys, oneTab ones, fnTab [(37, C37)], false, [], [(99999, [3], [])], none, [], []⟩
noncomputable def L90 : List (LoopS (Bool × Unit)) := []
theorem C90_ok : QuietOk Tryz.prog 90 C90 := tQ E90 L90 [] Tryz.func90 ty_ok (.cons C37_ok .nil) .nil
noncomputable def F55_R2 (e0_0 : Unit → Option (Bool × Unit)) (er_1 : Bool × Unit → Option (Bool × Unit)) (rec : List (D85) × Int × Int × D25 × Unit → Option (Bool × Unit)) (x2 : List (D85) × Int × Int × D25 × Unit) : Option (Bool × Unit) :=
 (cond (decide (x2.2.2.1 < x2.2.1))
 (gd (decide ((0 : Int) ≤ x2.2.2.1))
 (Option.bind x2.1[(Int.toNat x2.2.2.1)]? fun y5 =>
 (let j9 : List (D85) × Int × Int × D25 × D85 × Unit → Option (Bool × Unit) := fun (y10 : List (D85) × Int × Int × D25 × D85 × Unit) =>
 (Option.bind (F89 y10.2.2.2.2.1.2.2.2.1 (fun (v11 : D101) => (Option.map (fun (v12 : (Bool × Unit)) => v12.1) (F90 v11 y10.2.2.2.1)))) fun y11 =>
 (cond y11.1
 (er_1 (false, ()))
 (rec (y10.1, y10.2.1, (IntKind.wrap IntKind.i64 (y10.2.2.1 + (1 : Int))), y10.2.2.2.1, ()))))
 (Option.bind (F88 y5) fun y7 =>
 (cond (!y7.1)
 (er_1 (false, ()))
 (cond (decide (x2.2.2.1 > (0 : Int)))
 (gd (decide ((0 : Int) ≤ (IntKind.wrap IntKind.i64 (x2.2.2.1 - (1 : Int)))))
 (Option.bind x2.2.2.2.1.2.1[(Int.toNat (IntKind.wrap IntKind.i64 (x2.2.2.1 - (1 : Int))))]? fun y8 =>
 (cond (decide (y8.1 ≥ y5.1))
 (er_1 (false, ()))
 (cond (decide (y5.2.1 > x2.2.2.2.1.2.2.2.1))
 (er_1 (false, ()))
 (j9 (x2.1, x2.2.1, x2.2.2.1, x2.2.2.2.1, y5, ()))))))
 (cond (decide (y5.2.1 > x2.2.2.2.1.2.2.2.1))
 (er_1 (false, ()))
 (j9 (x2.1, x2.2.1, x2.2.2.1, x2.2.2.2.1, y5, ())))))))))
 (e0_0 (())))
noncomputable def F55 (a0 : D25) : Option (Bool × Unit) :=
 (iter (F55_R2
 (fun y12 =>
 (some (true, ())))
 (fun y13 =>
 (some (y13.1, ())))) fuel (a0.2.1, (((List.length a0.2.1) : Nat) : Int), (0 : Int), a0, ()))
noncomputable def C55 : Fun := ⟨[(.ro Y25)], [(.bool, .z)], fun z => F55 z.1⟩
noncomputable def E55 : Env := ⟨44, tyTab tys, oneTab ones, fnTab [(88, C88), (89, C89), (90, C90)], false, [], [(2, [1, 6, 7, 8], []), (3, [1, 6, 7, 8], []), (6, [1, 4, 6, 7, 8], []), (8, [1, 6, 7, 8], []), (9, [], []), (100000, [], []), (100001, [1, 6, 7, 8], []), (99999, [2], [])], none, [], []⟩
noncomputable def L55 : List (LoopS (Bool × Unit)) := [⟨2, ⟨[(1, (.ptr 8 [])), (6, (.pv (.slice Y85))), (7, (.pv (.int .i64))), (8, (.pv (.int .i64)))], [(8, (.data true Y25 .z))]⟩, fun κ => F55_R2 (fun y => κ.exit 0 (SSh.mk' ⟨[], []⟩ y)) (fun y => κ.ret (SSh.mk' ⟨[(2, (.pv .bool))], []⟩ y))⟩]
theorem L55_2 : RoundEq E55 L55 L55[0] (nthLoop (codeOf Tryz.f55) 0) := fun κ N x => by kernel_rfl
theorem C55_ok : QuietOk Tryz.prog 55 C55 := tQ E55 L55 [nthLoop (codeOf Tryz.f55) 0] Tryz.func55 ty_ok (.cons C88_ok (.cons C89_ok (.cons C90_ok .nil))) (.cons L55[0] (by kernel_rfl) L55_2 .nil)
noncomputable def F91_R2 (e0_0 : Unit → Option (Int × Unit)) (er_1 : Int × Unit → Option (Int × Unit)) (rec : List (D89) × (D89 → Option (Bool)) × Int × Int × Unit → Option (Int × Unit)) (x2 : List (D89) × (D89 → Option (Bool)) × Int × Int × Unit) : Option (Int × Unit) :=
 (cond (decide (x2.2.2.2.1 < x2.2.2.1))
 (gd (decide ((0 : Int) ≤ x2.2.2.2.1))
 (Option.bind x2.1[(Int.toNat x2.2.2.2.1)]? fun y5 =>
 (Option.bind (x2.2.1 y5) fun y6 =>
 (cond y6
 (er_1 (x2.2.2.2.1, ()))
 (rec (x2.1, x2.2.1, x2.2.2.1, (IntKind.wrap IntKind.i64 (x2.2.2.2.1 + (1 : Int))), ()))))))
 (e0_0 (())))
noncomputable def F91 (a0 : List (D89)) (a1 : (D89 → Option (Bool))) : Option (Int × Unit) :=
 (iter (F91_R2
 (fun y7 =>
 (some ((-(1 : Int)), ())))
 (fun y8 =>
 (some (y8.1, ())))) fuel (a0, a1, (((List.length a0) : Nat) : Int), (0 : Int), ()))
noncomputable def C91 : Fun := ⟨[(.ro (.slice Y89)), (.fn Y89 .bool)], [((.int .i64), .z)], fun z => F91 z.1 z.2.1⟩
noncomputable def E91 : Env := ⟨19, tyTab tys, oneTab ones, fnTab [], false, [], [(2, [0, 1, 7, 8], []), (3, [0, 1, 7, 8], []), (6, [0, 1, 7, 8], []), (7, [], []), (100000, [], []), (100001, [0, 1, 7, 8], []), (99999, [4], [])], none, [], []⟩
noncomputable def L91 : List (LoopS (Int × Unit)) := [⟨2, ⟨[(0, (.pv (.slice Y89))), (1, (.fnA Y89 .bool)), (7, (.pv (.int .i64))), (8, (.pv (.int .i64)))], []⟩, fun κ => F91_R2 (fun y => κ.exit 0 (SSh.mk' ⟨[], []⟩ y)) (fun y => κ.ret (SSh.mk' ⟨[(4, (.pv (.int .i64)))], []⟩ y))⟩]
theorem L91_2 : RoundEq E91 L91 L91[0] (nthLoop (codeOf Tryz.f91) 0) := fun κ N x => by kernel_rfl
theorem C91_ok : QuietOk Tryz.prog 91 C91 := tQ E91 L91 [nthLoop (codeOf Tryz.f91) 0] Tryz.func91 ty_ok .nil (.cons L91[0] (by kernel_rfl) L91_2 .nil)
noncomputable def F56 (a0 : List (D89)) (a1 : (D89 → Option (Bool))) : Option (Bool × Unit) :=
 (Option.bind (F91 a0 a1) fun y0 =>
 (some ((decide (y0.1 ≥ (0 : Int))), ())))
noncomputable def C56 : Fun := ⟨[(.ro (.slice Y89)), (.fn Y89 .bool)], [(.bool, .z)], fun z => F56 z.1 z.2.1⟩
noncomputable def E56 : Env := ⟨9, tyTab tys, oneTab ones, fnTab [(91, C91)], false, [], [(99999, [4], [])], none, [], []⟩
noncomputable def L56 : List (LoopS (Bool × Unit)) := []
theorem C56_ok : QuietOk Tryz.prog 56 C56 := tQ E56 L56 [] Tryz.func56 ty_ok (.cons C91_ok .nil) .nil
noncomputable def F57 (a0 : D89) (a1 : D25) : Option (Bool × Unit) :=
 (some ((decide (a0.2.1 > a1.2.2.2.1)), ()))
noncomputable def C57 : Fun := ⟨[(.ro Y89), (.rp Y25)], [(.bool, .z)], fun z => F57 z.1 z.2.1⟩
noncomputable def E57 : Env := ⟨9, tyTab tys, oneTab ones, fnTab [], false, [], [(99999, [3], [])], none, [], []⟩
noncomputable def L57 : List (LoopS (Bool × Unit)) := []
theorem C57_ok : QuietOk Tryz.prog 57 C57 := tQ E57 L57 [] Tryz.func57 ty_ok .nil .nil
noncomputable def F27_R7 (e2_0 : List (D55) × Int × Int × D25 × Unit → Option (Bool × Unit)) (er_1 : Bool × Unit → Option (Bool × Unit)) (rec : List (D55) × Int × Int × List (D58) × Int × Int × D25 × Unit → Option (Bool × Unit)) (x12 : List (D55) × Int × Int × List (D58) × Int × Int × D25 × Unit) : Option (Bool × Unit) :=
 (cond (decide (x12.2.2.2.2.2.1 < x12.2.2.2.2.1))
 (gd (decide ((0 : Int) ≤ x12.2.2.2.2.2.1))
 (Option.bind x12.2.2.2.1[(Int.toNat x12.2.2.2.2.2.1)]? fun y15 =>
 (gd (decide ((0 : Int) ≤ (IntKind.wrap IntKind.i64 ((((List.length y15.2.1) : Nat) : Int) - (1 : Int)))))
 (Option.bind y15.2.1[(Int.toNat (IntKind.wrap IntKind.i64 ((((List.length y15.2.1) : Nat) : Int) - (1 : Int))))]? fun y16 =>
 (cond (decide (y16.1 > x12.2.2.2.2.2.2.1.2.2.2.1))
 (er_1 (false, ()))
 (rec (x12.1, x12.2.1, x12.2.2.1, x12.2.2.2.1, x12.2.2.2.2.1, (IntKind.wrap IntKind.i64 (x12.2.2.2.2.2.1 + (1 : Int))), x12.2.2.2.2.2.2.1, ())))))))
 (e2_0 (x12.1, x12.2.1, x12.2.2.1, x12.2.2.2.2.2.2.1, ())))
noncomputable def F27_R4 (e0_0 : D25 × Unit → Option (Bool × Unit)) (er_1 : Bool × Unit → Option (Bool × Unit)) (rec : List (D55) × Int × Int × D25 × Unit → Option (Bool × Unit)) (x7 : List (D55) × Int × Int × D25 × Unit) : Option (Bool × Unit) :=
 (cond (decide (x7.2.2.1 < x7.2.1))
 (gd (decide ((0 : Int) ≤ x7.2.2.1))
 (Option.bind x7.1[(Int.toNat x7.2.2.1)]? fun y10 =>
 (iter (F27_R7
 (fun y17 =>
 (rec (y17.1, y17.2.1, (IntKind.wrap IntKind.i64 (y17.2.2.1 + (1 : Int))), y17.2.2.2.1, ())))
 (fun y18 =>
 (er_1 (y18.1, ())))) fuel (x7.1, x7.2.1, x7.2.2.1, y10.2.1, (((List.length y10.2.1) : Nat) : Int), (0 : Int), x7.2.2.2.1, ()))))
 (e0_0 (x7.2.2.2.1, ())))
noncomputable def F27 (a0 : D25) : Option (Bool × Unit) :=
 (cond ((((List.length a0.1) : Nat) : Int) == (0 : Int))
 (some (false, ()))
 (Option.bind (F52 a0.1) fun y1 =>
 (cond (!y1.1)
 (some (false, ()))
 (Option.bind (F53 a0.2.2.1) fun y2 =>
 (cond (!y2.1)
 (some (false, ()))
 (Option.bind (F54 a0.2.2.2.1 (0 : Int) (10000 : Int)) fun y3 =>
 (cond (!y3.1)
 (some (false, ()))
 (Option.bind (F55 a0) fun y4 =>
 (cond (!y4.1)
 (some (false, ()))
 (iter (F27_R4
 (fun y19 =>
 (Option.bind (F56 y19.1.2.2.1 (fun (v9 : D89) => (Option.map (fun (v10 : (Bool × Unit)) => v10.1) (F57 v9 y19.1)))) fun y21 =>
 (some ((!y21.1), ()))))
 (fun y20 =>
 (some (y20.1, ())))) fuel (a0.1, (((List.length a0.1) : Nat) : Int), (0 : Int), a0, ())))))))))))
noncomputable def C27 : Fun := ⟨[(.ro Y25)], [(.bool, .z)], fun z => F27 z.1⟩
noncomputable def E27 : Env := ⟨67, tyTab tys, oneTab ones, fnTab [(52, C52), (53, C53), (54, C54), (55, C55), (56, C56), (57, C57)], false, [], [(3, [1], []), (4, [1, 35, 36, 37], []), (5, [1, 35, 36, 37], []), (7, [1, 35, 36, 37, 42, 43, 44], []), (8, [1, 35, 36, 37, 42, 43, 44], []), (11, [1, 35, 36, 37, 42, 43, 44], []), (12, [1, 35, 36, 37], []), (13, [1], []), (100000, [1], []), (100001, [1, 35, 36, 37], []), (100002, [1, 35, 36, 37], []), (100003, [1, 35, 36, 37, 42, 43, 44], []), (99999, [2], [])], none, [], []⟩
noncomputable def L27 : List (LoopS (Bool × Unit)) := [⟨7, ⟨[(1, (.ptr 8 [])), (35, (.pv (.slice Y55))), (36, (.pv (.int .i64))), (37, (.pv (.int .i64))), (42, (.pv (.slice Y58))), (43, (.pv (.int .i64))), (44, (.pv (.int .i64)))], [(8, (.data true Y25 .z))]⟩, fun κ => F27_R7 (fun y => κ.exit 2 (SSh.mk' ⟨[(1, (.ptr 8 [])), (35, (.pv (.slice Y55))), (36, (.pv (.int .i64))), (37, (.pv (.int .i64)))], [(8, (.data true Y25 .z))]⟩ y)) (fun y => κ.ret (SSh.mk' ⟨[(2, (.pv .bool))], []⟩ y))⟩,
  ⟨4, ⟨[(1, (.ptr 8 [])), (35, (.pv (.slice Y55))), (36, (.pv (.int .i64))), (37, (.pv (.int .i64)))], [(8, (.data true Y25 .z))]⟩, fun κ => F27_R4 (fun y => κ.exit 0 (SSh.mk' ⟨[(1, (.ptr 8 []))], [(8, (.data true Y25 .z))]⟩ y)) (fun y => κ.ret (SSh.mk' ⟨[(2, (.pv .bool))], []⟩ y))⟩]
theorem L27_7 : RoundEq E27 L27 L27[0] (nthLoop (codeOf Tryz.f27) 1) := fun κ N x => by kernel_rfl
theorem L27_4 : RoundEq E27 L27 L27[1] (nthLoop (codeOf Tryz.f27) 0) := fun κ N x => by kernel_rfl
theorem C27_ok : QuietOk Tryz.prog 27 C27 := tQ E27 L27 [nthLoop (codeOf Tryz.f27) 0, nthLoop (codeOf Tryz.f27) 1] Tryz.func27 ty_ok (.cons C52_ok (.cons C53_ok (.cons C54_ok (.cons C55_ok (.cons C56_ok (.cons C57_ok .nil)))))) (.cons L27[1] (by kernel_rfl) L27_4 (.cons L27[0] (by kernel_rfl) L27_7 .nil))
noncomputable def F28_R3 (e0_0 : Int × Unit → Option (Int × Unit)) (rec : Int × List (D58) × Int × Int × Unit → Option (Int × Unit)) (x2 : Int × List (D58) × Int × Int × Unit) : Option (Int × Unit) :=
 (cond (decide (x2.2.2.2.1 < x2.2.2.1))
 (gd (decide ((0 : Int) ≤ x2.2.2.2.1))
 (Option.bind x2.2.1[(Int.toNat x2.2.2.2.1)]? fun y4 =>
 (rec ((IntKind.wrap IntKind.i64 (x2.1 + (((List.length y4.2.1) : Nat) : Int))), x2.2.1, x2.2.2.1, (IntKind.wrap IntKind.i64 (x2.2.2.2.1 + (1 : Int))), ()))))
 (e0_0 (x2.1, ())))
noncomputable def F28 (a0 : D55) : Option (Int × Unit) :=
 (iter (F28_R3
 (fun y5 =>
 (some (y5.1, ())))) fuel ((0 : Int), a0.2.1, (((List.length a0.2.1) : Nat) : Int), (0 : Int), ()))
noncomputable def C28 : Fun := ⟨[(.ro Y55)], [((.int .i64), .z)], fun z => F28 z.1⟩
noncomputable def E28 : Env := ⟨20, tyTab tys, oneTab ones, fnTab [], false, [], [(3, [3, 7, 8, 9], []), (4, [3, 7, 8, 9], []), (7, [3], []), (100000, [3], []), (100001, [3, 7, 8, 9], []), (99999, [2], [])], none, [], []⟩
noncomputable def L28 : List (LoopS (Int × Unit)) := [⟨3, ⟨[(3, (.pv (.int .i64))), (7, (.pv (.slice Y58))), (8, (.pv (.int .i64))), (9, (.pv (.int .i64)))], []⟩, fun κ => F28_R3 (fun y => κ.exit 0 (SSh.mk' ⟨[(3, (.pv (.int .i64)))], []⟩ y))⟩]
theorem L28_3 : RoundEq E28 L28 L28[0] (nthLoop (codeOf Tryz.f28) 0) := fun κ N x => by kernel_rfl
theorem C28_ok : QuietOk Tryz.prog 28 C28 := tQ E28 L28 [nthLoop (codeOf Tryz.f28) 0] Tryz.func28 ty_ok .nil (.cons L28[0] (by kernel_rfl) L28_3 .nil)
noncomputable def F8_R5 (e0_0 : Int × Int × D25 × Unit → Option (List (Int) × Int × Unit)) (rec : Int × Int × List (D55) × Int × Int × D25 × Unit → Option (List (Int) × Int × Unit)) (x4 : Int × Int × List (D55) × Int × Int × D25 × Unit) : Option (List (Int) × Int × Unit) :=
 (cond (decide (x4.2.2.2.2.1 < x4.2.2.2.1))
 (gd (decide ((0 : Int) ≤ x4.2.2.2.2.1))
 (Option.bind x4.2.2.1[(Int.toNat x4.2.2.2.2.1)]? fun y6 =>
 (Option.bind (F28 y6) fun y7 =>
 (Option.bind (F29 y6 x4.2.2.2.2.2.1.2.2.2.1) fun y8 =>
 (rec ((IntKind.wrap IntKind.i64 (x4.1 + y7.1)), (IntKind.wrap IntKind.i64 (x4.2.1 + (((List.length y8.1) : Nat) : Int))), x4.2.2.1, x4.2.2.2.1, (IntKind.wrap IntKind.i64 (x4.2.2.2.2.1 + (1 : Int))), x4.2.2.2.2.2.1, ()))))))
 (e0_0 (x4.1, x4.2.1, x4.2.2.2.2.2.1, ())))
noncomputable def F8 (a0 : D25) : Option (List (Int) × Int × Unit) :=
 (Option.bind (F27 a0) fun y1 =>
 (cond (!y1.1)
 (some ([], ((1 : Int), ())))
 (iter (F8_R5
 (fun y9 =>
 (some ([(((List.length y9.2.2.1.2.1) : Nat) : Int), (((List.length y9.2.2.1.2.2.1) : Nat) : Int), y9.1, y9.2.1], ((0 : Int), ()))))) fuel ((0 : Int), (0 : Int), a0.1, (((List.length a0.1) : Nat) : Int), (0 : Int), a0, ()))))
noncomputable def C8 : Fun := ⟨[(.ro Y25)], [((.slice (.int .i64)), (.own .z)), ((.int .i64), .z)], fun z => F8 z.1⟩
noncomputable def E8 : Env := ⟨39, tyTab tys, oneTab ones, fnTab [(27, C27), (28, C28), (29, C29)], false, [], [(3, [1], []), (5, [1, 4, 5, 12, 13, 14], []), (6, [1, 4, 5, 12, 13, 14], []), (10, [1, 4, 5], []), (100000, [1, 4, 5], []), (100001, [1, 4, 5, 12, 13, 14], []), (99999, [2, 3], [])], none, [], []⟩
noncomputable def L8 : List (LoopS (List (Int) × Int × Unit)) := [⟨5, ⟨[(1, (.ptr 8 [])), (4, (.pv (.int .i64))), (5, (.pv (.int .i64))), (12, (.pv (.slice Y55))), (13, (.pv (.int .i64))), (14, (.pv (.int .i64)))], [(8, (.data true Y25 .z))]⟩, fun κ => F8_R5 (fun y => κ.exit 0 (SSh.mk' ⟨[(1, (.ptr 8 [])), (4, (.pv (.int .i64))), (5, (.pv (.int .i64)))], [(8, (.data true Y25 .z))]⟩ y))⟩]
theorem L8_5 : RoundEq E8 L8 L8[0] (nthLoop (codeOf Tryz.f8) 0) := fun κ N x => by kernel_rfl
theorem C8_ok : FreshOk Tryz.prog 8 C8 := tF E8 L8 [nthLoop (codeOf Tryz.f8) 0] Tryz.func8 ty_ok (.cons C27_ok (.cons C28_ok (.consFr C29_ok .nil))) (.cons L8[0] (by kernel_rfl) L8_5 .nil)
noncomputable def F9_R4 (e0_0 : Unit → Option (Bool × Unit)) (er_1 : Bool × Unit → Option (Bool × Unit)) (rec : List (Int) × List (Int) × Int × Unit → Option (Bool × Unit)) (x3 : List (Int) × List (Int) × Int × Unit) : Option (Bool × Unit) :=
 (cond (decide (x3.2.2.1 < (((List.length x3.1) : Nat) : Int)))
 (gd (decide ((0 : Int) ≤ x3.2.2.1))
 (Option.bind x3.1[(Int.toNat x3.2.2.1)]? fun y6 =>
 (gd (decide ((0 : Int) ≤ x3.2.2.1))
 (Option.bind x3.2.1[(Int.toNat x3.2.2.1)]? fun y7 =>
 (cond (y6 != y7)
 (er_1 (false, ()))
 (rec (x3.1, x3.2.1, (IntKind.wrap IntKind.i64 (x3.2.2.1 + (1 : Int))), ())))))))
 (e0_0 (())))
noncomputable def F9 (a0 : List (Int)) (a1 : List (Int)) : Option (Bool × Unit) :=
 (cond ((((List.length a0) : Nat) : Int) != (((List.length a1) : Nat) : Int))
 (some (false, ()))
 (iter (F9_R4
 (fun y8 =>
 (some (true, ())))
 (fun y9 =>
 (some (y9.1, ())))) fuel (a0, a1, (0 : Int), ())))
noncomputable def C9 : Fun := ⟨[(.ro (.slice (.int .i64))), (.ro (.slice (.int .i64)))], [(.bool, .z)], fun z => F9 z.1 z.2.1⟩
noncomputable def E9 : Env := ⟨26, tyTab tys, oneTab ones, fnTab [], false, [], [(3, [0, 1], []), (4, [0, 1, 5], []), (5, [0, 1, 5], []), (6, [0, 1, 5], []), (8, [], []), (100000, [], []), (100001, [0, 1, 5], []), (99999, [4], [])], none, [], []⟩
noncomputable def L9 : List (LoopS (Bool × Unit)) := [⟨4, ⟨[(0, (.pv (.slice (.int .i64)))), (1, (.pv (.slice (.int .i64)))), (5, (.pv (.int .i64)))], []⟩, fun κ => F9_R4 (fun y => κ.exit 0 (SSh.mk' ⟨[], []⟩ y)) (fun y => κ.ret (SSh.mk' ⟨[(4, (.pv .bool))], []⟩ y))⟩]
theorem L9_4 : RoundEq E9 L9 L9[0] (nthLoop (codeOf Tryz.f9) 0) := fun κ N x => by kernel_rfl
theorem C9_ok : QuietOk Tryz.prog 9 C9 := tQ E9 L9 [nthLoop (codeOf Tryz.f9) 0] Tryz.func9 ty_ok .nil (.cons L9[0] (by kernel_rfl) L9_4 .nil)
noncomputable def F39 (a0 : D74) (a1 : D74) : Option (Bool × Unit) :=
 (cond (a0.1 != a1.1)
 (some (false, ()))
 (cond (a0.2.1 != a1.2.1)
 (some (false, ()))
 (cond (!(a0.2.2.1 == a1.2.2.1))
 (some (false, ()))
 (some (true, ())))))
noncomputable def C39 : Fun := ⟨[(.ro Y74), (.ro Y74)], [(.bool, .z)], fun z => F39 z.1 z.2.1⟩
noncomputable def E39 : Env := ⟨20, tyTab tys, oneTab ones, fnTab [], false, [], [(3, [2, 3], []), (5, [2, 3], []), (7, [], []), (99999, [4], [])], none, [], []⟩
noncomputable def L39 : List (LoopS (Bool × Unit)) := []
theorem C39_ok : QuietOk Tryz.prog 39 C39 := tQ E39 L39 [] Tryz.func39 ty_ok .nil .nil
noncomputable def F190 (a0 : D94) (a1 : D94) : Option (Bool × Unit) :=
 (cond (a0.1 != a1.1)
 (some (false, ()))
 (cond (!(a0.2.1 == a1.2.1))
 (some (false, ()))
 (Option.bind (F39 a0.2.2.1 a1.2.2.1) fun y3 =>
 (cond (!y3.1)
 (some (false, ()))
 (some (true, ()))))))
noncomputable def C190 : Fun := ⟨[(.ro Y94), (.ro Y94)], [(.bool, .z)], fun z => F190 z.1 z.2.1⟩
noncomputable def E190 : Env := ⟨21, tyTab tys, oneTab ones, fnTab [(39, C39)], false, [], [(3, [2, 3], []), (5, [2, 3], []), (7, [], []), (99999, [4], [])], none, [], []⟩
noncomputable def L190 : List (LoopS (Bool × Unit)) := []
theorem C190_ok : QuietOk Tryz.prog 190 C190 := tQ E190 L190 [] Tryz.func190 ty_ok (.cons C39_ok .nil) .nil
noncomputable def F167_R4 (e0_0 : Unit → Option (Bool × Unit)) (er_1 : Bool × Unit → Option (Bool × Unit)) (rec : List (D94) × List (D94) × Int × Unit → Option (Bool × Unit)) (x3 : List (D94) × List (D94) × Int × Unit) : Option (Bool × Unit) :=
 (cond (decide (x3.2.2.1 < (((List.length x3.1) : Nat) : Int)))
 (gd (decide ((0 : Int) ≤ x3.2.2.1))
 (Option.bind x3.1[(Int.toNat x3.2.2.1)]? fun y6 =>
 (gd (decide ((0 : Int) ≤ x3.2.2.1))
 (Option.bind x3.2.1[(Int.toNat x3.2.2.1)]? fun y7 =>
 (Option.bind (F190 y6 y7) fun y8 =>
 (cond (!y8.1)
 (er_1 (false, ()))
 (rec (x3.1, x3.2.1, (IntKind.wrap IntKind.i64 (x3.2.2.1 + (1 : Int))), ()))))))))
 (e0_0 (())))
noncomputable def F167 (a0 : List (D94)) (a1 : List (D94)) : Option (Bool × Unit) :=
 (cond ((((List.length a0) : Nat) : Int) != (((List.length a1) : Nat) : Int))
 (some (false, ()))
 (iter (F167_R4
 (fun y9 =>
 (some (true, ())))
 (fun y10 =>
 (some (y10.1, ())))) fuel (a0, a1, (0 : Int), ())))
noncomputable def C167 : Fun := ⟨[(.ro (.slice Y94)), (.ro (.slice Y94))], [(.bool, .z)], fun z => F167 z.1 z.2.1⟩
noncomputable def E167 : Env := ⟨27, tyTab tys, oneTab ones, fnTab [(190, C190)], false, [], [(3, [0, 1], []), (4, [0, 1, 5], []), (5, [0, 1, 5], []), (6, [0, 1, 5], []), (8, [], []), (100000, [], []), (100001, [0, 1, 5], []), (99999, [4], [])], none, [], []⟩
noncomputable def L167 : List (LoopS (Bool × Unit)) := [⟨4, ⟨[(0, (.pv (.slice Y94))), (1, (.pv (.slice Y94))), (5, (.pv (.int .i64)))], []⟩, fun κ => F167_R4 (fun y => κ.exit 0 (SSh.mk' ⟨[], []⟩ y)) (fun y => κ.ret (SSh.mk' ⟨[(4, (.pv .bool))], []⟩ y))⟩]
theorem L167_4 : RoundEq E167 L167 L167[0] (nthLoop (codeOf Tryz.f167) 0) := fun κ N x => by kernel_rfl
theorem C167_ok : QuietOk Tryz.prog 167 C167 := tQ E167 L167 [nthLoop (codeOf Tryz.f167) 0] Tryz.func167 ty_ok (.cons C190_ok .nil) (.cons L167[0] (by kernel_rfl) L167_4 .nil)
noncomputable def F131 (a0 : D58) (a1 : D58) : Option (Bool × Unit) :=
 (cond (a0.1 != a1.1)
 (some (false, ()))
 (Option.bind (F167 a0.2.1 a1.2.1) fun y2 =>
 (cond (!y2.1)
 (some (false, ()))
 (some (true, ())))))
noncomputable def C131 : Fun := ⟨[(.ro Y58), (.ro Y58)], [(.bool, .z)], fun z => F131 z.1 z.2.1⟩
noncomputable def E131 : Env := ⟨16, tyTab tys, oneTab ones, fnTab [(167, C167)], false, [], [(3, [2, 3], []), (5, [], []), (99999, [4], [])], none, [], []⟩
noncomputable def L131 : List (LoopS (Bool × Unit)) := []
theorem C131_ok : QuietOk Tryz.prog 131 C131 := tQ E131 L131 [] Tryz.func131 ty_ok (.cons C167_ok .nil) .nil
noncomputable def F93_R4 (e0_0 : Unit → Option (Bool × Unit)) (er_1 : Bool × Unit → Option (Bool × Unit)) (rec : List (D58) × List (D58) × Int × Unit → Option (Bool × Unit)) (x3 : List (D58) × List (D58) × Int × Unit) : Option (Bool × Unit) :=
 (cond (decide (x3.2.2.1 < (((List.length x3.1) : Nat) : Int)))
 (gd (decide ((0 : Int) ≤ x3.2.2.1))
 (Option.bind x3.1[(Int.toNat x3.2.2.1)]? fun y6 =>
 (gd (decide ((0 : Int) ≤ x3.2.2.1))
 (Option.bind x3.2.1[(Int.toNat x3.2.2.1)]? fun y7 =>
 (Option.bind (F131 y6 y7) fun y8 =>
 (cond (!y8.1)
 (er_1 (false, ()))
 (rec (x3.1, x3.2.1, (IntKind.wrap IntKind.i64 (x3.2.2.1 + (1 : Int))), ()))))))))
 (e0_0 (())))
noncomputable def F93 (a0 : List (D58)) (a1 : List (D58)) : Option (Bool × Unit) :=
 (cond ((((List.length a0) : Nat) : Int) != (((List.length a1) : Nat) : Int))
 (some (false, ()))
 (iter (F93_R4
 (fun y9 =>
 (some (true, ())))
 (fun y10 =>
 (some (y10.1, ())))) fuel (a0, a1, (0 : Int), ())))
noncomputable def C93 : Fun := ⟨[(.ro (.slice Y58)), (.ro (.slice Y58))], [(.bool, .z)], fun z => F93 z.1 z.2.1⟩
noncomputable def E93 : Env := ⟨27, tyTab tys, oneTab ones, fnTab [(131, C131)], false, [], [(3, [0, 1], []), (4, [0, 1, 5], []), (5, [0, 1, 5], []), (6, [0, 1, 5], []), (8, [], []), (100000, [], []), (100001, [0, 1, 5], []), (99999, [4], [])], none, [], []⟩
noncomputable def L93 : List (LoopS (Bool × Unit)) := [⟨4, ⟨[(0, (.pv (.slice Y58))), (1, (.pv (.slice Y58))), (5, (.pv (.int .i64)))], []⟩, fun κ => F93_R4 (fun y => κ.exit 0 (SSh.mk' ⟨[], []⟩ y)) (fun y => κ.ret (SSh.mk' ⟨[(4, (.pv .bool))], []⟩ y))⟩]
theorem L93_4 : RoundEq E93 L93 L93[0] (nthLoop (codeOf Tryz.f93) 0) := fun κ N x => by kernel_rfl
theorem C93_ok : QuietOk Tryz.prog 93 C93 := tQ E93 L93 [nthLoop (codeOf Tryz.f93) 0] Tryz.func93 ty_ok (.cons C131_ok .nil) (.cons L93[0] (by kernel_rfl) L93_4 .nil)
noncomputable def F191 (a0 : D209) (a1 : D209) : Option (Bool × Unit) :=
 (cond (!(a0.1 == a1.1))
 (some (false, ()))
 (cond (!(a0.2.1 == a1.2.1))
 (some (false, ()))
 (some (true, ()))))
noncomputable def C191 : Fun := ⟨[(.ro Y209), (.ro Y209)], [(.bool, .z)], fun z => F191 z.1 z.2.1⟩
noncomputable def E191 : Env := ⟨15, tyTab tys, oneTab ones, fnTab [], false, [], [(3, [2, 3], []), (5, [], []), (99999, [4], [])], none, [], []⟩
noncomputable def L191 : List (LoopS (Bool × Unit)) := []
theorem C191_ok : QuietOk Tryz.prog 191 C191 := tQ E191 L191 [] Tryz.func191 ty_ok .nil .nil
noncomputable def F168_R4 (e0_0 : Unit → Option (Bool × Unit)) (er_1 : Bool × Unit → Option (Bool × Unit)) (rec : List (D209) × List (D209) × Int × Unit → Option (Bool × Unit)) (x3 : List (D209) × List (D209) × Int × Unit) : Option (Bool × Unit) :=
 (cond (decide (x3.2.2.1 < (((List.length x3.1) : Nat) : Int)))
 (gd (decide ((0 : Int) ≤ x3.2.2.1))
 (Option.bind x3.1[(Int.toNat x3.2.2.1)]? fun y6 =>
 (gd (decide ((0 : Int) ≤ x3.2.2.1))
 (Option.bind x3.2.1[(Int.toNat x3.2.2.1)]? fun y7 =>
 (Option.bind (F191 y6 y7) fun y8 =>
 (cond (!y8.1)
 (er_1 (false, ()))
 (rec (x3.1, x3.2.1, (IntKind.wrap IntKind.i64 (x3.2.2.1 + (1 : Int))), ()))))))))
 (e0_0 (())))
noncomputable def F168 (a0 : List (D209)) (a1 : List (D209)) : Option (Bool × Unit) :=
 (cond ((((List.length a0) : Nat) : Int) != (((List.length a1) : Nat) : Int))
 (some (false, ()))
 (iter (F168_R4
 (fun y9 =>
 (some (true, ())))
 (fun y10 =>
 (some (y10.1, ())))) fuel (a0, a1, (0 : Int), ())))
noncomputable def C168 : Fun := ⟨[(.ro (.slice Y209)), (.ro (.slice Y209))], [(.bool, .z)], fun z => F168 z.1 z.2.1⟩
noncomputable def E168 : Env := ⟨27, tyTab tys, oneTab ones, fnTab [(191, C191)], false, [], [(3, [0, 1], []), (4, [0, 1, 5], []), (5, [0, 1, 5], []), (6, [0, 1, 5], []), (8, [], []), (100000, [], []), (100001, [0, 1, 5], []), (99999, [4], [])], none, [], []⟩
noncomputable def L168 : List (LoopS (Bool × Unit)) := [⟨4, ⟨[(0, (.pv (.slice Y209))), (1, (.pv (.slice Y209))), (5, (.pv (.int .i64)))], []⟩, fun κ => F168_R4 (fun y => κ.exit 0 (SSh.mk' ⟨[], []⟩ y)) (fun y => κ.ret (SSh.mk' ⟨[(4, (.pv .bool))], []⟩ y))⟩]
theorem L168_4 : RoundEq E168 L168 L168[0] (nthLoop (codeOf Tryz.f168) 0) := fun κ N x => by kernel_rfl
theorem C168_ok : QuietOk Tryz.prog 168 C168 := tQ E168 L168 [nthLoop (codeOf Tryz.f168) 0] Tryz.func168 ty_ok (.cons C191_ok .nil) (.cons L168[0] (by kernel_rfl) L168_4 .nil)
noncomputable def F132 (a0 : D158) (a1 : D158) : Option (Bool × Unit) :=
 (cond (!(a0.1 == a1.1))
 (some (false, ()))
 (Option.bind (F168 a0.2.1 a1.2.1) fun y2 =>
 (cond (!y2.1)
 (some (false, ()))
 (some (true, ())))))
noncomputable def C132 : Fun := ⟨[(.ro Y158), (.ro Y158)], [(.bool, .z)], fun z => F132 z.1 z.2.1⟩
noncomputable def E132 : Env := ⟨16, tyTab tys, oneTab ones, fnTab [(168, C168)], false, [], [(3, [2, 3], []), (5, [], []), (99999, [4], [])], none, [], []⟩
noncomputable def L132 : List (LoopS (Bool × Unit)) := []
theorem C132_ok : QuietOk Tryz.prog 132 C132 := tQ E132 L132 [] Tryz.func132 ty_ok (.cons C168_ok .nil) .nil
noncomputable def F94_R4 (e0_0 : Unit → Option (Bool × Unit)) (er_1 : Bool × Unit → Option (Bool × Unit)) (rec : List (D158) × List (D158) × Int × Unit → Option (Bool × Unit)) (x3 : List (D158) × List (D158) × Int × Unit) : Option (Bool × Unit) :=
 (cond (decide (x3.2.2.1 < (((List.length x3.1) : Nat) : Int)))
 (gd (decide ((0 : Int) ≤ x3.2.2.1))
 (Option.bind x3.1[(Int.toNat x3.2.2.1)]? fun y6 =>
 (gd (decide ((0 : Int) ≤ x3.2.2.1))
 (Option.bind x3.2.1[(Int.toNat x3.2.2.1)]? fun y7 =>
 (Option.bind (F132 y6 y7) fun y8 =>
 (cond (!y8.1)
 (er_1 (false, ()))
 (rec (x3.1, x3.2.1, (IntKind.wrap IntKind.i64 (x3.2.2.1 + (1 : Int))), ()))))))))
 (e0_0 (())))
noncomputable def F94 (a0 : List (D158)) (a1 : List (D158)) : Option (Bool × Unit) :=
 (cond ((((List.length a0) : Nat) : Int) != (((List.length a1) : Nat) : Int))
 (some (false, ()))
 (iter (F94_R4
 (fun y9 =>
 (some (true, ())))
 (fun y10 =>
 (some (y10.1, ())))) fuel (a0, a1, (0 : Int), ())))
noncomputable def C94 : Fun := ⟨[(.ro (.slice Y158)), (.ro (.slice Y158))], [(.bool, .z)], fun z => F94 z.1 z.2.1⟩
noncomputable def E94 : Env := ⟨27, tyTab tys, oneTab ones, fnTab [(132, C132)], false, [], [(3, [0, 1], []), (4, [0, 1, 5], []), (5, [0, 1, 5], []), (6, [0, 1, 5], []), (8, [], []), (100000, [], []), (100001, [0, 1, 5], []), (99999, [4], [])], none, [], []⟩
noncomputable def L94 : List (LoopS (Bool × Unit)) := [⟨4, ⟨[(0, (.pv (.slice Y158))), (1, (.pv (.slice Y158))), (5, (.pv (.int .i64)))], []⟩, fun κ => F94_R4 (fun y => κ.exit 0 (SSh.mk' ⟨[], []⟩ y)) (fun y => κ.ret (SSh.mk' ⟨[(4, (.pv .bool))], []⟩ y))⟩]
theorem L94_4 : RoundEq E94 L94 L94[0] (nthLoop (codeOf Tryz.f94) 0) := fun κ N x => by kernel_rfl
theorem C94_ok : QuietOk Tryz.prog 94 C94 := tQ E94 L94 [nthLoop (codeOf Tryz.f94) 0] Tryz.func94 ty_ok (.cons C132_ok .nil) (.cons L94[0] (by kernel_rfl) L94_4 .nil)
noncomputable def F59 (a0 : D55) (a1 : D55) : Option (Bool × Unit) :=
 (cond (!(a0.1 == a1.1))
 (some (false, ()))
 (Option.bind (F93 a0.2.1 a1.2.1) fun y2 =>
 (cond (!y2.1)
 (some (false, ()))
 (Option.bind (F94 a0.2.2.1 a1.2.2.1) fun y4 =>
 (cond (!y4.1)
 (some (false, ()))
 (some (true, ())))))))
noncomputable def C59 : Fun := ⟨[(.ro Y55), (.ro Y55)], [(.bool, .z)], fun z => F59 z.1 z.2.1⟩
noncomputable def E59 : Env := ⟨22, tyTab tys, oneTab ones, fnTab [(93, C93), (94, C94)], false, [], [(3, [2, 3], []), (5, [2, 3], []), (7, [], []), (99999, [4], [])], none, [], []⟩
noncomputable def L59 : List (LoopS (Bool × Unit)) := []
theorem C59_ok : QuietOk Tryz.prog 59 C59 := tQ E59 L59 [] Tryz.func59 ty_ok (.cons C93_ok (.cons C94_ok .nil)) .nil
noncomputable def F30_R4 (e0_0 : Unit → Option (Bool × Unit)) (er_1 : Bool × Unit → Option (Bool × Unit)) (rec : List (D55) × List (D55) × Int × Unit → Option (Bool × Unit)) (x3 : List (D55) × List (D55) × Int × Unit) : Option (Bool × Unit) :=
 (cond (decide (x3.2.2.1 < (((List.length x3.1) : Nat) : Int)))
 (gd (decide ((0 : Int) ≤ x3.2.2.1))
 (Option.bind x3.1[(Int.toNat x3.2.2.1)]? fun y6 =>
 (gd (decide ((0 : Int) ≤ x3.2.2.1))
 (Option.bind x3.2.1[(Int.toNat x3.2.2.1)]? fun y7 =>
 (Option.bind (F59 y6 y7) fun y8 =>
 (cond (!y8.1)
 (er_1 (false, ()))
 (rec (x3.1, x3.2.1, (IntKind.wrap IntKind.i64 (x3.2.2.1 + (1 : Int))), ()))))))))
 (e0_0 (())))
noncomputable def F30 (a0 : List (D55)) (a1 : List (D55)) : Option (Bool × Unit) :=
 (cond ((((List.length a0) : Nat) : Int) != (((List.length a1) : Nat) : Int))
 (some (false, ()))
 (iter (F30_R4
 (fun y9 =>
 (some (true, ())))
 (fun y10 =>
 (some (y10.1, ())))) fuel (a0, a1, (0 : Int), ())))
noncomputable def C30 : Fun := ⟨[(.ro (.slice Y55)), (.ro (.slice Y55))], [(.bool, .z)], fun z => F30 z.1 z.2.1⟩
noncomputable def E30 : Env := ⟨27, tyTab tys, oneTab ones, fnTab [(59, C59)], false, [], [(3, [0, 1], []), (4, [0, 1, 5], []), (5, [0, 1, 5], []), (6, [0, 1, 5], []), (8, [], []), (100000, [], []), (100001, [0, 1, 5], []), (99999, [4], [])], none, [], []⟩
noncomputable def L30 : List (LoopS (Bool × Unit)) := [⟨4, ⟨[(0, (.pv (.slice Y55))), (1, (.pv (.slice Y55))), (5, (.pv (.int .i64)))], []⟩, fun κ => F30_R4 (fun y => κ.exit 0 (SSh.mk' ⟨[], []⟩ y)) (fun y => κ.ret (SSh.mk' ⟨[(4, (.pv .bool))], []⟩ y))⟩]
theorem L30_4 : RoundEq E30 L30 L30[0] (nthLoop (codeOf Tryz.f30) 0) := fun κ N x => by kernel_rfl
theorem C30_ok : QuietOk Tryz.prog 30 C30 := tQ E30 L30 [nthLoop (codeOf Tryz.f30) 0] Tryz.func30 ty_ok (.cons C59_ok .nil) (.cons L30[0] (by kernel_rfl) L30_4 .nil)
noncomputable def F236 (a0 : D222) (a1 : D222) : Option (Bool × Unit) :=
 (cond (a0.1 != a1.1)
 (some (false, ()))
 (cond (!(a0.2.1 == a1.2.1))
 (some (false, ()))
 (Option.bind (F39 a0.2.2.1 a1.2.2.1) fun y3 =>
 (cond (!y3.1)
 (some (false, ()))
 (some (true, ()))))))
noncomputable def C236 : Fun := ⟨[(.ro Y222), (.ro Y222)], [(.bool, .z)], fun z => F236 z.1 z.2.1⟩
noncomputable def E236 : Env := ⟨21, tyTab tys, oneTab ones, fnTab [(39, C39)], false, [], [(3, [2, 3], []), (5, [2, 3], []), (7, [], []), (99999, [4], [])], none, [], []⟩
noncomputable def L236 : List (LoopS (Bool × Unit)) := []
theorem C236_ok : QuietOk Tryz.prog 236 C236 := tQ E236 L236 [] Tryz.func236 ty_ok (.cons C39_ok .nil) .nil
noncomputable def F220_R4 (e0_0 : Unit → Option (Bool × Unit)) (er_1 : Bool × Unit → Option (Bool × Unit)) (rec : List (D222) × List (D222) × Int × Unit → Option (Bool × Unit)) (x3 : List (D222) × List (D222) × Int × Unit) : Option (Bool × Unit) :=
 (cond (decide (x3.2.2.1 < (((List.length x3.1) : Nat) : Int)))
 (gd (decide ((0 : Int) ≤ x3.2.2.1))
 (Option.bind x3.1[(Int.toNat x3.2.2.1)]? fun y6 =>
 (gd (decide ((0 : Int) ≤ x3.2.2.1))
 (Option.bind x3.2.1[(Int.toNat x3.2.2.1)]? fun y7 =>
 (Option.bind (F236 y6 y7) fun y8 =>
 (cond (!y8.1)
 (er_1 (false, ()))
 (rec (x3.1, x3.2.1, (IntKind.wrap IntKind.i64 (x3.2.2.1 + (1 : Int))), ()))))))))
 (e0_0 (())))
noncomputable def F220 (a0 : List (D222)) (a1 : List (D222)) : Option (Bool × Unit) :=
 (cond ((((List.length a0) : Nat) : Int) != (((List.length a1) : Nat) : Int))
 (some (false, ()))
 (iter (F220_R4
 (fun y9 =>
 (some (true, ())))
 (fun y10 =>
 (some (y10.1, ())))) fuel (a0, a1, (0 : Int), ())))
noncomputable def C220 : Fun := ⟨[(.ro (.slice Y222)), (.ro (.slice Y222))], [(.bool, .z)], fun z => F220 z.1 z.2.1⟩
noncomputable def E220 : Env := ⟨27, tyTab tys, oneTab ones, fnTab [(236, C236)], false, [], [(3, [0, 1], []), (4, [0, 1, 5], []), (5, [0, 1, 5], []), (6, [0, 1, 5], []), (8, [], []), (100000, [], []), (100001, [0, 1, 5], []), (99999, [4], [])], none, [], []⟩
noncomputable def L220 : List (LoopS (Bool × Unit)) := [⟨4, ⟨[(0, (.pv (.slice Y222))), (1, (.pv (.slice Y222))), (5, (.pv (.int .i64)))], []⟩, fun κ => F220_R4 (fun y => κ.exit 0 (SSh.mk' ⟨[], []⟩ y)) (fun y => κ.ret (SSh.mk' ⟨[(4, (.pv .bool))], []⟩ y))⟩]
theorem L220_4 : RoundEq E220 L220 L220[0] (nthLoop (codeOf Tryz.f220) 0) := fun κ N x => by kernel_rfl
theorem C220_ok : QuietOk Tryz.prog 220 C220 := tQ E220 L220 [nthLoop (codeOf Tryz.f220) 0] Tryz.func220 ty_ok (.cons C236_ok .nil) (.cons L220[0] (by kernel_rfl) L220_4 .nil)
noncomputable def F209 (a0 : D213) (a1 : D213) : Option (Bool × Unit) :=
 (Option.bind (F220 a0.1 a1.1) fun y1 =>
 (cond (!y1.1)
 (some (false, ()))
 (some (true, ()))))
noncomputable def C209 : Fun := ⟨[(.ro Y213), (.ro Y213)], [(.bool, .z)], fun z => F209 z.1 z.2.1⟩
noncomputable def E209 : Env := ⟨11, tyTab tys, oneTab ones, fnTab [(220, C220)], false, [], [(3, [], []), (99999, [4], [])], none, [], []⟩
noncomputable def L209 : List (LoopS (Bool × Unit)) := []
theorem C209_ok : QuietOk Tryz.prog 209 C209 := tQ E209 L209 [] Tryz.func209 ty_ok (.cons C220_ok .nil) .nil
noncomputable def F192_R4 (e0_0 : Unit → Option (Bool × Unit)) (er_1 : Bool × Unit → Option (Bool × Unit)) (rec : List (D213) × List (D213) × Int × Unit → Option (Bool × Unit)) (x3 : List (D213) × List (D213) × Int × Unit) : Option (Bool × Unit) :=
 (cond (decide (x3.2.2.1 < (((List.length x3.1) : Nat) : Int)))
 (gd (decide ((0 : Int) ≤ x3.2.2.1))
 (Option.bind x3.1[(Int.toNat x3.2.2.1)]? fun y6 =>
 (gd (decide ((0 : Int) ≤ x3.2.2.1))
 (Option.bind x3.2.1[(Int.toNat x3.2.2.1)]? fun y7 =>
 (Option.bind (F209 y6 y7) fun y8 =>
 (cond (!y8.1)
 (er_1 (false, ()))
 (rec (x3.1, x3.2.1, (IntKind.wrap IntKind.i64 (x3.2.2.1 + (1 : Int))), ()))))))))
 (e0_0 (())))
noncomputable def F192 (a0 : List (D213)) (a1 : List (D213)) : Option (Bool × Unit) :=
 (cond ((((List.length a0) : Nat) : Int) != (((List.length a1) : Nat) : Int))
 (some (false, ()))
 (iter (F192_R4
 (fun y9 =>
 (some (true, ())))
 (fun y10 =>
 (some (y10.1, ())))) fuel (a0, a1, (0 : Int), ())))
noncomputable def C192 : Fun := ⟨[(.ro (.slice Y213)), (.ro (.slice Y213))], [(.bool, .z)], fun z => F192 z.1 z.2.1⟩
noncomputable def E192 : Env := ⟨27, tyTab tys, oneTab ones, fnTab [(209, C209)], false, [], [(3, [0, 1], []), (4, [0, 1, 5], []), (5, [0, 1, 5], []), (6, [0, 1, 5], []), (8, [], []), (100000, [], []), (100001, [0, 1, 5], []), (99999, [4], [])], none, [], []⟩
noncomputable def L192 : List (LoopS (Bool × Unit)) := [⟨4, ⟨[(0, (.pv (.slice Y213))), (1, (.pv (.slice Y213))), (5, (.pv (.int .i64)))], []⟩, fun κ => F192_R4 (fun y => κ.exit 0 (SSh.mk' ⟨[], []⟩ y)) (fun y => κ.ret (SSh.mk' ⟨[(4, (.pv .bool))], []⟩ y))⟩]
theorem L192_4 : RoundEq E192 L192 L192[0] (nthLoop (codeOf Tryz.f192) 0) := fun κ N x => by kernel_rfl
theorem C192_ok : QuietOk Tryz.prog 192 C192 := tQ E192 L192 [nthLoop (codeOf Tryz.f192) 0] Tryz.func192 ty_ok (.cons C209_ok .nil) (.cons L192[0] (by kernel_rfl) L192_4 .nil)
noncomputable def F169 (a0 : D137) (a1 : D137) : Option (Bool × Unit) :=
 (Option.bind (F192 a0.1 a1.1) fun y1 =>
 (cond (!y1.1)
 (some (false, ()))
 (some (true, ()))))
noncomputable def C169 : Fun := ⟨[(.ro Y137), (.ro Y137)], [(.bool, .z)], fun z => F169 z.1 z.2.1⟩
noncomputable def E169 : Env := ⟨11, tyTab tys, oneTab ones, fnTab [(192, C192)], false, [], [(3, [], []), (99999, [4], [])], none, [], []⟩
noncomputable def L169 : List (LoopS (Bool × Unit)) := []
theorem C169_ok : QuietOk Tryz.prog 169 C169 := tQ E169 L169 [] Tryz.func169 ty_ok (.cons C192_ok .nil) .nil
noncomputable def F133 (a0 : D139) (a1 : D139) : Option (Bool × Unit) :=
 (cond (!(a0.1 == a1.1))
 (some (false, ()))
 (Option.bind (F169 a0.2.1 a1.2.1) fun y2 =>
 (cond (!y2.1)
 (some (false, ()))
 (some (true, ())))))
noncomputable def C133 : Fun := ⟨[(.ro Y139), (.ro Y139)], [(.bool, .z)], fun z => F133 z.1 z.2.1⟩
noncomputable def E133 : Env := ⟨16, tyTab tys, oneTab ones, fnTab [(169, C169)], false, [], [(3, [2, 3], []), (5, [], []), (99999, [4], [])], none, [], []⟩
noncomputable def L133 : List (LoopS (Bool × Unit)) := []
theorem C133_ok : QuietOk Tryz.prog 133 C133 := tQ E133 L133 [] Tryz.func133 ty_ok (.cons C169_ok .nil) .nil
noncomputable def F95_R4 (e0_0 : Unit → Option (Bool × Unit)) (er_1 : Bool × Unit → Option (Bool × Unit)) (rec : List (D139) × List (D139) × Int × Unit → Option (Bool × Unit)) (x3 : List (D139) × List (D139) × Int × Unit) : Option (Bool × Unit) :=
 (cond (decide (x3.2.2.1 < (((List.length x3.1) : Nat) : Int)))
 (gd (decide ((0 : Int) ≤ x3.2.2.1))
 (Option.bind x3.1[(Int.toNat x3.2.2.1)]? fun y6 =>
 (gd (decide ((0 : Int) ≤ x3.2.2.1))
 (Option.bind x3.2.1[(Int.toNat x3.2.2.1)]? fun y7 =>
 (Option.bind (F133 y6 y7) fun y8 =>
 (cond (!y8.1)
 (er_1 (false, ()))
 (rec (x3.1, x3.2.1, (IntKind.wrap IntKind.i64 (x3.2.2.1 + (1 : Int))), ()))))))))
 (e0_0 (())))
noncomputable def F95 (a0 : List (D139)) (a1 : List (D139)) : Option (Bool × Unit) :=
 (cond ((((List.length a0) : Nat) : Int) != (((List.length a1) : Nat) : Int))
 (some (false, ()))
 (iter (F95_R4
 (fun y9 =>
 (some (true, ())))
 (fun y10 =>
 (some (y10.1, ())))) fuel (a0, a1, (0 : Int), ())))
noncomputable def C95 : Fun := ⟨[(.ro (.slice Y139)), (.ro (.slice Y139))], [(.bool, .z)], fun z => F95 z.1 z.2.1⟩
noncomputable def E95 : Env := ⟨27, tyTab tys, oneTab ones, fnTab [(133, C133)], false, [], [(3, [0, 1], []), (4, [0, 1, 5], []), (5, [0, 1, 5], []), (6, [0, 1, 5], []), (8, [], []), (100000, [], []), (100001, [0, 1, 5], []), (99999, [4], [])], none, [], []⟩
noncomputable def L95 : List (LoopS (Bool × Unit)) := [⟨4, ⟨[(0, (.pv (.slice Y139))), (1, (.pv (.slice Y139))), (5, (.pv (.int .i64)))], []⟩, fun κ => F95_R4 (fun y => κ.exit 0 (SSh.mk' ⟨[], []⟩ y)) (fun y => κ.ret (SSh.mk' ⟨[(4, (.pv .bool))], []⟩ y))⟩]
theorem L95_4 : RoundEq E95 L95 L95[0] (nthLoop (codeOf Tryz.f95) 0) := fun κ N x => by kernel_rfl
theorem C95_ok : QuietOk Tryz.prog 95 C95 := tQ E95 L95 [nthLoop (codeOf Tryz.f95) 0] Tryz.func95 ty_ok (.cons C133_ok .nil) (.cons L95[0] (by kernel_rfl) L95_4 .nil)
end Go.V
