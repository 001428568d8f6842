/- What functions of the program compute, printed by a program of ours. No condition. -/
import Derived.Test.YtaghikdjjoaebaaGreatDoorWF1
namespace Go.V
open Go.Proofs
set_option maxRecDepth 100000
set_option linter.unusedVariables false
noncomputable def F66_R3 (e0_0 : List (D89) × Unit → Option (List (D89) × Unit)) (rec : List (D89) × Int × List (D89) × Unit → Option (List (D89) × Unit)) (x2 : List (D89) × Int × List (D89) × Unit) : Option (List (D89) × Unit) :=
 (cond (decide (x2.2.1 < (((List.length x2.1) : Nat) : Int)))
 (gd (decide ((0 : Int) ≤ x2.2.1))
 (Option.bind x2.1[(Int.toNat x2.2.1)]? fun y4 =>
 (Option.bind (F96 y4) fun y5 =>
 (gd (decide ((0 : Int) ≤ x2.2.1))
 (gd (decide (x2.2.1 < (((List.length x2.2.2.1) : Nat) : Int)))
 (Option.bind x2.2.2.1[(Int.toNat x2.2.1)]? fun y6 =>
 (rec (x2.1, (IntKind.wrap IntKind.i64 (x2.2.1 + (1 : Int))), (List.set x2.2.2.1 (Int.toNat x2.2.1) y5.1), ()))))))))
 (e0_0 (x2.2.2.1, ())))
noncomputable def F66 (a0 : List (D89)) : Option (List (D89) × Unit) :=
 (gd (decide ((((List.length a0) : Nat) : Int) ≤ ((4294967296 : Nat) : Int)))
 (gd (decide ((((List.length a0) : Nat) : Int) ≤ (((Int.toNat (((List.length a0) : Nat) : Int)) : Nat) : Int)))
 (iter (F66_R3
 (fun y7 =>
 (some (y7.1, ())))) fuel (a0, (0 : Int), (List.replicate (Int.toNat (((List.length a0) : Nat) : Int)) ([], ((0 : Int), (false, (((0 : Int), ((0 : Int), ([], ()))), ()))))), ()))))
noncomputable def C66 : Fun := ⟨[(.ro (.slice Y89))], [((.slice Y89), (.own .z))], fun z => F66 z.1⟩
noncomputable def E66 : Env := ⟨23, tyTab tys, oneTab ones, fnTab [(96, C96)], true, [], [(3, [0, 3, 4], []), (5, [0, 3, 4], []), (6, [3], []), (100000, [3], []), (100001, [0, 3, 4], []), (99999, [2], [])], none, []⟩
noncomputable def L66 : List (LoopS (List (D89) × Unit)) := [⟨3, ⟨[(0, (.pv (.slice Y89))), (3, (.ref (.slice Y89) 56 [])), (4, (.pv (.int .i64)))], [(56, (.data false (.slice Y89) (.own .z)))]⟩, fun κ => F66_R3 (fun y => κ.exit 0 (SSh.mk' ⟨[(3, (.ref (.slice Y89) 56 []))], [(56, (.data false (.slice Y89) (.own .z)))]⟩ y))⟩]
theorem L66_3 : RoundEq E66 L66 L66[0] (nthLoop (codeOf Tryz.f66) 0) := fun κ N x => by kernel_rfl
theorem C66_ok : FreshOk Tryz.prog 66 C66 := tF E66 L66 [nthLoop (codeOf Tryz.f66) 0] Tryz.func66 ty_ok (.cons C96_ok .nil) (.cons L66[0] (by kernel_rfl) L66_3 .nil)
noncomputable def F36 (a0 : D48) : Option (D48 × Unit) :=
 (Option.bind (F65 a0.2.2.1) fun y0 =>
 (Option.bind (F66 a0.2.2.2.1) fun y1 =>
 (some ((a0.1, (a0.2.1, (y0.1, (y1.1, ())))), ()))))
noncomputable def C36 : Fun := ⟨[(.ro Y48)], [(Y48, (.pr .z (.pr .z (.pr (.own (.pr .z (.pr (.pr (.own (.pr (.own .z) .z)) .z) .z))) (.pr (.own .z) .z)))))], fun z => F36 z.1⟩
noncomputable def E36 : Env := ⟨19, tyTab tys, oneTab ones, fnTab [(65, C65), (66, C66)], true, [], [(99999, [2], [])], none, []⟩
noncomputable def L36 : List (LoopS (D48 × Unit)) := []
theorem C36_ok : FreshOk Tryz.prog 36 C36 := tF E36 L36 [] Tryz.func36 ty_ok (.consFr C65_ok (.consFr C66_ok .nil)) .nil
noncomputable def F18_R3 (e0_0 : List (D48) × Unit → Option (List (D48) × Unit)) (rec : List (D48) × Int × List (D48) × Unit → Option (List (D48) × Unit)) (x2 : List (D48) × Int × List (D48) × Unit) : Option (List (D48) × Unit) :=
 (cond (decide (x2.2.1 < (((List.length x2.1) : Nat) : Int)))
 (gd (decide ((0 : Int) ≤ x2.2.1))
 (Option.bind x2.1[(Int.toNat x2.2.1)]? fun y4 =>
 (Option.bind (F36 y4) fun y5 =>
 (gd (decide ((0 : Int) ≤ x2.2.1))
 (gd (decide (x2.2.1 < (((List.length x2.2.2.1) : Nat) : Int)))
 (Option.bind x2.2.2.1[(Int.toNat x2.2.1)]? fun y6 =>
 (rec (x2.1, (IntKind.wrap IntKind.i64 (x2.2.1 + (1 : Int))), (List.set x2.2.2.1 (Int.toNat x2.2.1) y5.1), ()))))))))
 (e0_0 (x2.2.2.1, ())))
noncomputable def F18 (a0 : List (D48)) : Option (List (D48) × Unit) :=
 (gd (decide ((((List.length a0) : Nat) : Int) ≤ ((4294967296 : Nat) : Int)))
 (gd (decide ((((List.length a0) : Nat) : Int) ≤ (((Int.toNat (((List.length a0) : Nat) : Int)) : Nat) : Int)))
 (iter (F18_R3
 (fun y7 =>
 (some (y7.1, ())))) fuel (a0, (0 : Int), (List.replicate (Int.toNat (((List.length a0) : Nat) : Int)) ((0 : Int), ((0 : Int), ([], ([], ()))))), ()))))
noncomputable def C18 : Fun := ⟨[(.ro (.slice Y48))], [((.slice Y48), (.own (.pr .z (.pr .z (.pr (.own (.pr .z (.pr (.pr (.own (.pr (.own .z) .z)) .z) .z))) (.pr (.own .z) .z))))))], fun z => F18 z.1⟩
noncomputable def E18 : Env := ⟨23, tyTab tys, oneTab ones, fnTab [(36, C36)], true, [], [(3, [0, 3, 4], []), (5, [0, 3, 4], []), (6, [3], []), (100000, [3], []), (100001, [0, 3, 4], []), (99999, [2], [])], none, []⟩
noncomputable def L18 : List (LoopS (List (D48) × Unit)) := [⟨3, ⟨[(0, (.pv (.slice Y48))), (3, (.ref (.slice Y48) 56 [])), (4, (.pv (.int .i64)))], [(56, (.data false (.slice Y48) (.own (.pr .z (.pr .z (.pr (.own (.pr .z (.pr (.pr (.own (.pr (.own .z) .z)) .z) .z))) (.pr (.own .z) .z)))))))]⟩, fun κ => F18_R3 (fun y => κ.exit 0 (SSh.mk' ⟨[(3, (.ref (.slice Y48) 56 []))], [(56, (.data false (.slice Y48) (.own (.pr .z (.pr .z (.pr (.own (.pr .z (.pr (.pr (.own (.pr (.own .z) .z)) .z) .z))) (.pr (.own .z) .z)))))))]⟩ y))⟩]
theorem L18_3 : RoundEq E18 L18 L18[0] (nthLoop (codeOf Tryz.f18) 0) := fun κ N x => by kernel_rfl
theorem C18_ok : FreshOk Tryz.prog 18 C18 := tF E18 L18 [nthLoop (codeOf Tryz.f18) 0] Tryz.func18 ty_ok (.consFr C36_ok .nil) (.cons L18[0] (by kernel_rfl) L18_3 .nil)
noncomputable def F97 (a0 : D142) : Option (D142 × Unit) :=
 (Option.bind (F96 a0.1) fun y0 =>
 (Option.bind (F133 a0.2.1) fun y1 =>
 (some ((y0.1, (y1.1, (a0.2.2.1, ()))), ()))))
noncomputable def C97 : Fun := ⟨[(.ro Y142)], [(Y142, .z)], fun z => F97 z.1⟩
noncomputable def E97 : Env := ⟨16, tyTab tys, oneTab ones, fnTab [(96, C96), (133, C133)], true, [], [(99999, [2], [])], none, []⟩
noncomputable def L97 : List (LoopS (D142 × Unit)) := []
theorem C97_ok : QuietOk Tryz.prog 97 C97 := tQ E97 L97 [] Tryz.func97 ty_ok (.cons C96_ok (.cons C133_ok .nil)) .nil
noncomputable def F67_R3 (e0_0 : List (D142) × Unit → Option (List (D142) × Unit)) (rec : List (D142) × Int × List (D142) × Unit → Option (List (D142) × Unit)) (x2 : List (D142) × Int × List (D142) × Unit) : Option (List (D142) × Unit) :=
 (cond (decide (x2.2.1 < (((List.length x2.1) : Nat) : Int)))
 (gd (decide ((0 : Int) ≤ x2.2.1))
 (Option.bind x2.1[(Int.toNat x2.2.1)]? fun y4 =>
 (Option.bind (F97 y4) fun y5 =>
 (gd (decide ((0 : Int) ≤ x2.2.1))
 (gd (decide (x2.2.1 < (((List.length x2.2.2.1) : Nat) : Int)))
 (Option.bind x2.2.2.1[(Int.toNat x2.2.1)]? fun y6 =>
 (rec (x2.1, (IntKind.wrap IntKind.i64 (x2.2.1 + (1 : Int))), (List.set x2.2.2.1 (Int.toNat x2.2.1) y5.1), ()))))))))
 (e0_0 (x2.2.2.1, ())))
noncomputable def F67 (a0 : List (D142)) : Option (List (D142) × Unit) :=
 (gd (decide ((((List.length a0) : Nat) : Int) ≤ ((4294967296 : Nat) : Int)))
 (gd (decide ((((List.length a0) : Nat) : Int) ≤ (((Int.toNat (((List.length a0) : Nat) : Int)) : Nat) : Int)))
 (iter (F67_R3
 (fun y7 =>
 (some (y7.1, ())))) fuel (a0, (0 : Int), (List.replicate (Int.toNat (((List.length a0) : Nat) : Int)) (([], ((0 : Int), (false, (((0 : Int), ((0 : Int), ([], ()))), ())))), (((0 : Int), ((0 : Int), ([], ()))), (false, ())))), ()))))
noncomputable def C67 : Fun := ⟨[(.ro (.slice Y142))], [((.slice Y142), (.own .z))], fun z => F67 z.1⟩
noncomputable def E67 : Env := ⟨23, tyTab tys, oneTab ones, fnTab [(97, C97)], true, [], [(3, [0, 3, 4], []), (5, [0, 3, 4], []), (6, [3], []), (100000, [3], []), (100001, [0, 3, 4], []), (99999, [2], [])], none, []⟩
noncomputable def L67 : List (LoopS (List (D142) × Unit)) := [⟨3, ⟨[(0, (.pv (.slice Y142))), (3, (.ref (.slice Y142) 56 [])), (4, (.pv (.int .i64)))], [(56, (.data false (.slice Y142) (.own .z)))]⟩, fun κ => F67_R3 (fun y => κ.exit 0 (SSh.mk' ⟨[(3, (.ref (.slice Y142) 56 []))], [(56, (.data false (.slice Y142) (.own .z)))]⟩ y))⟩]
theorem L67_3 : RoundEq E67 L67 L67[0] (nthLoop (codeOf Tryz.f67) 0) := fun κ N x => by kernel_rfl
theorem C67_ok : FreshOk Tryz.prog 67 C67 := tF E67 L67 [nthLoop (codeOf Tryz.f67) 0] Tryz.func67 ty_ok (.cons C97_ok .nil) (.cons L67[0] (by kernel_rfl) L67_3 .nil)
noncomputable def F37 (a0 : D71) : Option (D71 × Unit) :=
 (Option.bind (F65 a0.2.2.1) fun y0 =>
 (Option.bind (F67 a0.2.2.2.1) fun y1 =>
 (some ((a0.1, (a0.2.1, (y0.1, (y1.1, (a0.2.2.2.2.1, (a0.2.2.2.2.2.1, ())))))), ()))))
noncomputable def C37 : Fun := ⟨[(.ro Y71)], [(Y71, (.pr .z (.pr .z (.pr (.own (.pr .z (.pr (.pr (.own (.pr (.own .z) .z)) .z) .z))) (.pr (.own .z) .z)))))], fun z => F37 z.1⟩
noncomputable def E37 : Env := ⟨25, tyTab tys, oneTab ones, fnTab [(65, C65), (67, C67)], true, [], [(99999, [2], [])], none, []⟩
noncomputable def L37 : List (LoopS (D71 × Unit)) := []
theorem C37_ok : FreshOk Tryz.prog 37 C37 := tF E37 L37 [] Tryz.func37 ty_ok (.consFr C65_ok (.consFr C67_ok .nil)) .nil
noncomputable def F19_R3 (e0_0 : List (D71) × Unit → Option (List (D71) × Unit)) (rec : List (D71) × Int × List (D71) × Unit → Option (List (D71) × Unit)) (x2 : List (D71) × Int × List (D71) × Unit) : Option (List (D71) × Unit) :=
 (cond (decide (x2.2.1 < (((List.length x2.1) : Nat) : Int)))
 (gd (decide ((0 : Int) ≤ x2.2.1))
 (Option.bind x2.1[(Int.toNat x2.2.1)]? fun y4 =>
 (Option.bind (F37 y4) fun y5 =>
 (gd (decide ((0 : Int) ≤ x2.2.1))
 (gd (decide (x2.2.1 < (((List.length x2.2.2.1) : Nat) : Int)))
 (Option.bind x2.2.2.1[(Int.toNat x2.2.1)]? fun y6 =>
 (rec (x2.1, (IntKind.wrap IntKind.i64 (x2.2.1 + (1 : Int))), (List.set x2.2.2.1 (Int.toNat x2.2.1) y5.1), ()))))))))
 (e0_0 (x2.2.2.1, ())))
noncomputable def F19 (a0 : List (D71)) : Option (List (D71) × Unit) :=
 (gd (decide ((((List.length a0) : Nat) : Int) ≤ ((4294967296 : Nat) : Int)))
 (gd (decide ((((List.length a0) : Nat) : Int) ≤ (((Int.toNat (((List.length a0) : Nat) : Int)) : Nat) : Int)))
 (iter (F19_R3
 (fun y7 =>
 (some (y7.1, ())))) fuel (a0, (0 : Int), (List.replicate (Int.toNat (((List.length a0) : Nat) : Int)) ((0 : Int), ((0 : Int), ([], ([], (false, (false, ()))))))), ()))))
noncomputable def C19 : Fun := ⟨[(.ro (.slice Y71))], [((.slice Y71), (.own (.pr .z (.pr .z (.pr (.own (.pr .z (.pr (.pr (.own (.pr (.own .z) .z)) .z) .z))) (.pr (.own .z) .z))))))], fun z => F19 z.1⟩
noncomputable def E19 : Env := ⟨23, tyTab tys, oneTab ones, fnTab [(37, C37)], true, [], [(3, [0, 3, 4], []), (5, [0, 3, 4], []), (6, [3], []), (100000, [3], []), (100001, [0, 3, 4], []), (99999, [2], [])], none, []⟩
noncomputable def L19 : List (LoopS (List (D71) × Unit)) := [⟨3, ⟨[(0, (.pv (.slice Y71))), (3, (.ref (.slice Y71) 56 [])), (4, (.pv (.int .i64)))], [(56, (.data false (.slice Y71) (.own (.pr .z (.pr .z (.pr (.own (.pr .z (.pr (.pr (.own (.pr (.own .z) .z)) .z) .z))) (.pr (.own .z) .z)))))))]⟩, fun κ => F19_R3 (fun y => κ.exit 0 (SSh.mk' ⟨[(3, (.ref (.slice Y71) 56 []))], [(56, (.data false (.slice Y71) (.own (.pr .z (.pr .z (.pr (.own (.pr .z (.pr (.pr (.own (.pr (.own .z) .z)) .z) .z))) (.pr (.own .z) .z)))))))]⟩ y))⟩]
theorem L19_3 : RoundEq E19 L19 L19[0] (nthLoop (codeOf Tryz.f19) 0) := fun κ N x => by kernel_rfl
theorem C19_ok : FreshOk Tryz.prog 19 C19 := tF E19 L19 [nthLoop (codeOf Tryz.f19) 0] Tryz.func19 ty_ok (.consFr C37_ok .nil) (.cons L19[0] (by kernel_rfl) L19_3 .nil)
noncomputable def F6 (a0 : D25) : Option (D25 × Unit) :=
 (Option.bind (F17 a0.1) fun y0 =>
 (Option.bind (F18 a0.2.1) fun y1 =>
 (Option.bind (F19 a0.2.2.1) fun y2 =>
 (some ((y0.1, (y1.1, (y2.1, (a0.2.2.2.1, ())))), ())))))
noncomputable def C6 : Fun := ⟨[(.ro Y25)], [(Y25, (.pr (.own (.pr .z (.pr (.own (.pr .z (.pr (.own .z) .z))) (.pr (.own (.pr .z (.pr (.own .z) .z))) .z)))) (.pr (.own (.pr .z (.pr .z (.pr (.own (.pr .z (.pr (.pr (.own (.pr (.own .z) .z)) .z) .z))) (.pr (.own .z) .z))))) (.pr (.own (.pr .z (.pr .z (.pr (.own (.pr .z (.pr (.pr (.own (.pr (.own .z) .z)) .z) .z))) (.pr (.own .z) .z))))) .z))))], fun z => F6 z.1⟩
noncomputable def E6 : Env := ⟨20, tyTab tys, oneTab ones, fnTab [(17, C17), (18, C18), (19, C19)], true, [], [(99999, [2], [])], none, []⟩
noncomputable def L6 : List (LoopS (D25 × Unit)) := []
theorem C6_ok : FreshOk Tryz.prog 6 C6 := tF E6 L6 [] Tryz.func6 ty_ok (.consFr C17_ok (.consFr C18_ok (.consFr C19_ok .nil))) .nil
noncomputable def F40 (a0 : Int) (a1 : Int) (a2 : Int) : Option (Bool × Unit) :=
 (cond (decide (a1 ≤ a0))
 (some ((decide (a0 ≤ a2)), ()))
 (some (false, ())))
noncomputable def C40 : Fun := ⟨[(.ro (.int .i64)), (.ro (.int .i64)), (.ro (.int .i64))], [(.bool, .z)], fun z => F40 z.1 z.2.1 z.2.2.1⟩
noncomputable def E40 : Env := ⟨15, tyTab tys, oneTab ones, fnTab [], false, [], [(99999, [6], [])], none, []⟩
noncomputable def L40 : List (LoopS (Bool × Unit)) := []
theorem C40_ok : QuietOk Tryz.prog 40 C40 := tQ E40 L40 [] Tryz.func40 ty_ok .nil .nil
noncomputable def F168 (a0 : Int) : Option (Bool × Unit) :=
 (cond (decide (a0 ≥ (97 : Int)))
 (cond (decide (a0 ≤ (122 : Int)))
 (some (true, ()))
 (cond (decide (a0 ≥ (65 : Int)))
 (cond (decide (a0 ≤ (90 : Int)))
 (some (true, ()))
 (some ((a0 == (95 : Int)), ())))
 (some ((a0 == (95 : Int)), ()))))
 (cond (decide (a0 ≥ (65 : Int)))
 (cond (decide (a0 ≤ (90 : Int)))
 (some (true, ()))
 (some ((a0 == (95 : Int)), ())))
 (some ((a0 == (95 : Int)), ()))))
noncomputable def C168 : Fun := ⟨[(.ro (.int .u8))], [(.bool, .z)], fun z => F168 z.1⟩
noncomputable def E168 : Env := ⟨21, tyTab tys, oneTab ones, fnTab [], false, [], [(99999, [2], [])], none, []⟩
noncomputable def L168 : List (LoopS (Bool × Unit)) := []
theorem C168_ok : QuietOk Tryz.prog 168 C168 := tQ E168 L168 [] Tryz.func168 ty_ok .nil .nil
noncomputable def F169 (a0 : Int) : Option (Bool × Unit) :=
 (cond (decide (a0 ≥ (48 : Int)))
 (some ((decide (a0 ≤ (57 : Int))), ()))
 (some (false, ())))
noncomputable def C169 : Fun := ⟨[(.ro (.int .u8))], [(.bool, .z)], fun z => F169 z.1⟩
noncomputable def E169 : Env := ⟨9, tyTab tys, oneTab ones, fnTab [], false, [], [(99999, [2], [])], none, []⟩
noncomputable def L169 : List (LoopS (Bool × Unit)) := []
theorem C169_ok : QuietOk Tryz.prog 169 C169 := tQ E169 L169 [] Tryz.func169 ty_ok .nil .nil
noncomputable def F140_R2 (e0_0 : List UInt8 × Unit → Option (Bool × Unit)) (er_1 : Bool × Unit → Option (Bool × Unit)) (rec : List UInt8 × Int × Int × Unit → Option (Bool × Unit)) (x2 : List UInt8 × Int × Int × Unit) : Option (Bool × Unit) :=
 (cond (decide (x2.2.2.1 < x2.2.1))
 (let j9 : List UInt8 × Int × Int × Unit → Option (Bool × Unit) := fun (y10 : List UInt8 × Int × Int × Unit) =>
 (rec (y10.1, y10.2.1, (IntKind.wrap IntKind.i64 (y10.2.2.1 + (1 : Int))), ()))
 (gd (decide ((0 : Int) ≤ x2.2.2.1))
 (Option.bind x2.1[(Int.toNat x2.2.2.1)]? fun y5 =>
 (Option.bind (F168 (((UInt8.toNat y5) : Nat) : Int)) fun y6 =>
 (cond (!y6.1)
 (gd (decide ((0 : Int) ≤ x2.2.2.1))
 (Option.bind x2.1[(Int.toNat x2.2.2.1)]? fun y7 =>
 (Option.bind (F169 (((UInt8.toNat y7) : Nat) : Int)) fun y8 =>
 (cond (!y8.1)
 (er_1 (false, ()))
 (cond (x2.2.2.1 == (0 : Int))
 (er_1 (false, ()))
 (j9 (x2.1, x2.2.1, x2.2.2.1, ())))))))
 (j9 (x2.1, x2.2.1, x2.2.2.1, ())))))))
 (e0_0 (x2.1, ())))
noncomputable def F140 (a0 : List UInt8) : Option (Bool × Unit) :=
 (iter (F140_R2
 (fun y11 =>
 (Option.bind (F40 (((List.length y11.1) : Nat) : Int) (1 : Int) (40 : Int)) fun y13 =>
 (some (y13.1, ()))))
 (fun y12 =>
 (some (y12.1, ())))) fuel (a0, (((List.length a0) : Nat) : Int), (0 : Int), ()))
noncomputable def C140 : Fun := ⟨[(.ro .str)], [(.bool, .z)], fun z => F140 z.1⟩
noncomputable def E140 : Env := ⟨29, tyTab tys, oneTab ones, fnTab [(40, C40), (168, C168), (169, C169)], false, [], [(2, [0, 5, 6], []), (3, [0, 5, 6], []), (6, [0, 5, 6], []), (7, [0], []), (100000, [0], []), (100001, [0, 5, 6], []), (99999, [2], [])], none, []⟩
noncomputable def L140 : List (LoopS (Bool × Unit)) := [⟨2, ⟨[(0, (.pv .str)), (5, (.pv (.int .i64))), (6, (.pv (.int .i64)))], []⟩, fun κ => F140_R2 (fun y => κ.exit 0 (SSh.mk' ⟨[(0, (.pv .str))], []⟩ y)) (fun y => κ.ret (SSh.mk' ⟨[(2, (.pv .bool))], []⟩ y))⟩]
theorem L140_2 : RoundEq E140 L140 L140[0] (nthLoop (codeOf Tryz.f140) 0) := fun κ N x => by kernel_rfl
theorem C140_ok : QuietOk Tryz.prog 140 C140 := tQ E140 L140 [nthLoop (codeOf Tryz.f140) 0] Tryz.func140 ty_ok (.cons C40_ok (.cons C168_ok (.cons C169_ok .nil))) (.cons L140[0] (by kernel_rfl) L140_2 .nil)
noncomputable def F101 (a0 : List UInt8) : Option (Bool × Unit) :=
 (cond (decide ((((List.length a0) : Nat) : Int) ≤ (12 : Int)))
 (Option.bind (F140 a0) fun y0 =>
 (some (y0.1, ())))
 (some (false, ())))
noncomputable def C101 : Fun := ⟨[(.ro .str)], [(.bool, .z)], fun z => F101 z.1⟩
noncomputable def E101 : Env := ⟨10, tyTab tys, oneTab ones, fnTab [(140, C140)], false, [], [(99999, [2], [])], none, []⟩
noncomputable def L101 : List (LoopS (Bool × Unit)) := []
theorem C101_ok : QuietOk Tryz.prog 101 C101 := tQ E101 L101 [] Tryz.func101 ty_ok (.cons C140_ok .nil) .nil
noncomputable def F164_R2 (e0_0 : Unit → Option (Int × Unit)) (er_1 : Int × Unit → Option (Int × Unit)) (rec : List (D190) × (D190 → Option (Bool)) × Int × Int × Unit → Option (Int × Unit)) (x2 : List (D190) × (D190 → Option (Bool)) × Int × Int × Unit) : Option (Int × Unit) :=
 (cond (decide (x2.2.2.2.1 < x2.2.2.1))
 (gd (decide ((0 : Int) ≤ x2.2.2.2.1))
 (Option.bind x2.1[(Int.toNat x2.2.2.2.1)]? fun y5 =>
 (Option.bind (x2.2.1 y5) fun y6 =>
 (cond y6
 (er_1 (x2.2.2.2.1, ()))
 (rec (x2.1, x2.2.1, x2.2.2.1, (IntKind.wrap IntKind.i64 (x2.2.2.2.1 + (1 : Int))), ()))))))
 (e0_0 (())))
noncomputable def F164 (a0 : List (D190)) (a1 : (D190 → Option (Bool))) : Option (Int × Unit) :=
 (iter (F164_R2
 (fun y7 =>
 (some ((-(1 : Int)), ())))
 (fun y8 =>
 (some (y8.1, ())))) fuel (a0, a1, (((List.length a0) : Nat) : Int), (0 : Int), ()))
noncomputable def C164 : Fun := ⟨[(.ro (.slice Y190)), (.fn Y190 .bool)], [((.int .i64), .z)], fun z => F164 z.1 z.2.1⟩
noncomputable def E164 : Env := ⟨19, tyTab tys, oneTab ones, fnTab [], false, [], [(2, [0, 1, 7, 8], []), (3, [0, 1, 7, 8], []), (6, [0, 1, 7, 8], []), (7, [], []), (100000, [], []), (100001, [0, 1, 7, 8], []), (99999, [4], [])], none, []⟩
noncomputable def L164 : List (LoopS (Int × Unit)) := [⟨2, ⟨[(0, (.pv (.slice Y190))), (1, (.fnA Y190 .bool)), (7, (.pv (.int .i64))), (8, (.pv (.int .i64)))], []⟩, fun κ => F164_R2 (fun y => κ.exit 0 (SSh.mk' ⟨[], []⟩ y)) (fun y => κ.ret (SSh.mk' ⟨[(4, (.pv (.int .i64)))], []⟩ y))⟩]
theorem L164_2 : RoundEq E164 L164 L164[0] (nthLoop (codeOf Tryz.f164) 0) := fun κ N x => by kernel_rfl
theorem C164_ok : QuietOk Tryz.prog 164 C164 := tQ E164 L164 [nthLoop (codeOf Tryz.f164) 0] Tryz.func164 ty_ok .nil (.cons L164[0] (by kernel_rfl) L164_2 .nil)
noncomputable def F134 (a0 : List (D190)) (a1 : (D190 → Option (Bool))) : Option (Bool × Unit) :=
 (Option.bind (F164 a0 a1) fun y0 =>
 (some ((decide (y0.1 ≥ (0 : Int))), ())))
noncomputable def C134 : Fun := ⟨[(.ro (.slice Y190)), (.fn Y190 .bool)], [(.bool, .z)], fun z => F134 z.1 z.2.1⟩
noncomputable def E134 : Env := ⟨9, tyTab tys, oneTab ones, fnTab [(164, C164)], false, [], [(99999, [4], [])], none, []⟩
noncomputable def L134 : List (LoopS (Bool × Unit)) := []
theorem C134_ok : QuietOk Tryz.prog 134 C134 := tQ E134 L134 [] Tryz.func134 ty_ok (.cons C164_ok .nil) .nil
noncomputable def F232 (a0 : List UInt8) (a1 : Int) : Option (Int × Unit) :=
 (Option.bind (F242 a0 a1) fun y0 =>
 (some (y0.1, ())))
noncomputable def C232 : Fun := ⟨[(.ro .str), (.ro (.int .u8))], [((.int .i64), .z)], fun z => F232 z.1 z.2.1⟩
noncomputable def E232 : Env := ⟨8, tyTab tys, oneTab ones, fnTab [], false, [], [(99999, [4], [])], none, [(242, C242)]⟩
noncomputable def L232 : List (LoopS (Int × Unit)) := []
theorem C232_ok : QuietOk Tryz.prog 232 C232 := tQ E232 L232 [] Tryz.func232 ty_ok .nil .nil (hx := (.cons C242_ok .nil))
noncomputable def F234 (a0 : Int) : Option (Int × Unit) :=
 (some ((IntKind.wrap IntKind.i64 (Int.tdiv (IntKind.wrap IntKind.i64 (a0 + (16 : Int))) (8 : Int))), ()))
noncomputable def C234 : Fun := ⟨[(.ro (.int .i64))], [((.int .i64), .z)], fun z => F234 z.1⟩
noncomputable def E234 : Env := ⟨6, tyTab tys, oneTab ones, fnTab [], false, [], [(99999, [2], [])], none, []⟩
noncomputable def L234 : List (LoopS (Int × Unit)) := []
theorem C234_ok : QuietOk Tryz.prog 234 C234 := tQ E234 L234 [] Tryz.func234 ty_ok .nil .nil
noncomputable def F226 (a0 : List UInt8) (a1 : List UInt8) : Option (Int × Unit) :=
 (cond ((((List.length a1) : Nat) : Int) == (0 : Int))
 (some ((0 : Int), ()))
 (cond (a1 == a0)
 (some ((0 : Int), ()))
 (cond ((((List.length a1) : Nat) : Int) == (1 : Int))
 (Option.bind a1[(Int.toNat (0 : Int))]? fun y1 =>
 (Option.bind (F232 a0 (((UInt8.toNat y1) : Nat) : Int)) fun y2 =>
 (some (y2.1, ()))))
 (gd (decide ((((List.length a1) : Nat) : Int) ≥ (((List.length a0) : Nat) : Int)))
 (some ((-(1 : Int)), ()))))))
noncomputable def C226 : Fun := ⟨[(.ro .str), (.ro .str)], [((.int .i64), .z)], fun z => F226 z.1 z.2.1⟩
noncomputable def E226 : Env := ⟨143, tyTab tys, oneTab ones, fnTab [(232, C232), (234, C234)], false, [], [(10, [0, 1, 5], []), (15, [0, 1, 5, 6, 7, 8, 9, 10], []), (16, [0, 1, 5, 6, 7, 8, 9, 10], []), (20, [0, 1, 5, 6, 7, 8, 9, 10, 11], []), (21, [0, 1, 5, 6, 7, 8, 9, 10], []), (23, [0, 1, 5, 6, 7, 8, 9, 10], []), (29, [], []), (34, [8, 13], []), (35, [], []), (100000, [0, 1, 5], []), (100001, [], []), (100002, [0, 1, 5, 6, 7, 8, 9, 10], []), (99999, [4], [])], none, []⟩
noncomputable def L226 : List (LoopS (Int × Unit)) := []
theorem C226_ok : QuietOk Tryz.prog 226 C226 := tQ E226 L226 [nthLoop (codeOf Tryz.f226) 0] Tryz.func226 ty_ok (.cons C232_ok (.cons C234_ok .nil)) (.skip (by kernel_rfl) .nil)
noncomputable def F212 (a0 : List UInt8) (a1 : List UInt8) : Option (Int × Unit) :=
 (Option.bind (F226 a0 a1) fun y0 =>
 (some (y0.1, ())))
noncomputable def C212 : Fun := ⟨[(.ro .str), (.ro .str)], [((.int .i64), .z)], fun z => F212 z.1 z.2.1⟩
noncomputable def E212 : Env := ⟨8, tyTab tys, oneTab ones, fnTab [(226, C226)], false, [], [(99999, [4], [])], none, []⟩
noncomputable def L212 : List (LoopS (Int × Unit)) := []
theorem C212_ok : QuietOk Tryz.prog 212 C212 := tQ E212 L212 [] Tryz.func212 ty_ok (.cons C226_ok .nil) .nil
noncomputable def F211_R6 (er_0 : Int × Unit → Option (Int × Unit)) (rec : List UInt8 × List UInt8 × Int × Unit → Option (Int × Unit)) (x5 : List UInt8 × List UInt8 × Int × Unit) : Option (Int × Unit) :=
 (Option.bind (F212 x5.1 x5.2.1) fun y6 =>
 (cond (y6.1 == (-(1 : Int)))
 (er_0 (x5.2.2.1, ()))
 (gd (decide ((((List.length x5.1) : Nat) : Int) ≤ (((List.length x5.1) : Nat) : Int)))
 (gd (decide ((0 : Int) ≤ (IntKind.wrap IntKind.i64 (y6.1 + (((List.length x5.2.1) : Nat) : Int)))))
 (gd (decide ((IntKind.wrap IntKind.i64 (y6.1 + (((List.length x5.2.1) : Nat) : Int))) ≤ (((Int.toNat (((List.length x5.1) : Nat) : Int)) : Nat) : Int)))
 (rec ((List.drop (Int.toNat (IntKind.wrap IntKind.i64 (y6.1 + (((List.length x5.2.1) : Nat) : Int)))) (List.take (Int.toNat (((List.length x5.1) : Nat) : Int)) x5.1)), x5.2.1, (IntKind.wrap IntKind.i64 (x5.2.2.1 + (1 : Int))), ())))))))
noncomputable def F211 (a0 : List UInt8) (a1 : List UInt8) : Option (Int × Unit) :=
 (cond ((((List.length a1) : Nat) : Int) == (0 : Int))
 none
 (cond ((((List.length a1) : Nat) : Int) == (1 : Int))
 (Option.bind a1[(Int.toNat (0 : Int))]? fun y2 =>
 (Option.bind (F225 a0 (((UInt8.toNat y2) : Nat) : Int)) fun y3 =>
 (some (y3.1, ()))))
 (iter (F211_R6
 (fun y8 =>
 (some (y8.1, ())))) fuel (a0, a1, (0 : Int), ()))))
noncomputable def C211 : Fun := ⟨[(.ro .str), (.ro .str)], [((.int .i64), .z)], fun z => F211 z.1 z.2.1⟩
noncomputable def E211 : Env := ⟨34, tyTab tys, oneTab ones, fnTab [(212, C212)], false, [], [(3, [0, 1], []), (5, [0, 1], []), (6, [0, 1, 5], []), (9, [0, 1, 5, 6], []), (100000, [], []), (100001, [0, 1, 5], []), (99999, [4], [])], none, [(225, C225)]⟩
noncomputable def L211 : List (LoopS (Int × Unit)) := [⟨6, ⟨[(0, (.pv .str)), (1, (.pv .str)), (5, (.pv (.int .i64)))], []⟩, fun κ => F211_R6 (fun y => κ.ret (SSh.mk' ⟨[(4, (.pv (.int .i64)))], []⟩ y))⟩]
theorem L211_6 : RoundEq E211 L211 L211[0] (nthLoop (codeOf Tryz.f211) 0) := fun κ N x => by kernel_rfl
theorem C211_ok : QuietOk Tryz.prog 211 C211 := tQ E211 L211 [nthLoop (codeOf Tryz.f211) 0] Tryz.func211 ty_ok (.cons C212_ok .nil) (.cons L211[0] (by kernel_rfl) L211_6 .nil) (hx := (.cons C225_ok .nil))
noncomputable def F199_R11 (e0_0 : List UInt8 × Int × List (List UInt8) × Unit → Option (List (List UInt8) × Unit)) (rec : List UInt8 × List UInt8 × Int × Int × Int × List (List UInt8) × Unit → Option (List (List UInt8) × Unit)) (x8 : List UInt8 × List UInt8 × Int × Int × Int × List (List UInt8) × Unit) : Option (List (List UInt8) × Unit) :=
 (cond (decide (x8.2.2.2.2.1 < x8.2.2.2.1))
 (Option.bind (F212 x8.1 x8.2.1) fun y10 =>
 (cond (decide (y10.1 < (0 : Int)))
 (e0_0 (x8.1, x8.2.2.2.2.1, x8.2.2.2.2.2.1, ()))
 (gd (decide ((0 : Int) ≤ (IntKind.wrap IntKind.i64 (y10.1 + x8.2.2.1))))
 (gd (decide ((IntKind.wrap IntKind.i64 (y10.1 + x8.2.2.1)) ≤ (((List.length x8.1) : Nat) : Int)))
 (gd (decide ((0 : Int) ≤ x8.2.2.2.2.1))
 (gd (decide (x8.2.2.2.2.1 < (((List.length x8.2.2.2.2.2.1) : Nat) : Int)))
 (Option.bind x8.2.2.2.2.2.1[(Int.toNat x8.2.2.2.2.1)]? fun y12 =>
 (gd (decide ((((List.length x8.1) : Nat) : Int) ≤ (((List.length x8.1) : Nat) : Int)))
 (gd (decide ((0 : Int) ≤ (IntKind.wrap IntKind.i64 (y10.1 + (((List.length x8.2.1) : Nat) : Int)))))
 (gd (decide ((IntKind.wrap IntKind.i64 (y10.1 + (((List.length x8.2.1) : Nat) : Int))) ≤ (((Int.toNat (((List.length x8.1) : Nat) : Int)) : Nat) : Int)))
 (rec ((List.drop (Int.toNat (IntKind.wrap IntKind.i64 (y10.1 + (((List.length x8.2.1) : Nat) : Int)))) (List.take (Int.toNat (((List.length x8.1) : Nat) : Int)) x8.1)), x8.2.1, x8.2.2.1, x8.2.2.2.1, (IntKind.wrap IntKind.i64 (x8.2.2.2.2.1 + (1 : Int))), (List.set x8.2.2.2.2.2.1 (Int.toNat x8.2.2.2.2.1) (List.drop (Int.toNat (0 : Int)) (List.take (Int.toNat (IntKind.wrap IntKind.i64 (y10.1 + x8.2.2.1))) x8.1))), ()))))))))))))
 (e0_0 (x8.1, x8.2.2.2.2.1, x8.2.2.2.2.2.1, ())))
noncomputable def F199 (a0 : List UInt8) (a1 : List UInt8) (a2 : Int) (a3 : Int) : Option (List (List UInt8) × Unit) :=
 (cond (a3 == (0 : Int))
 (some ([], ()))
 (cond (a1 == [])
 none
 (let j4 : List UInt8 × List UInt8 × Int × Int × Unit → Option (List (List UInt8) × Unit) := fun (y5 : List UInt8 × List UInt8 × Int × Int × Unit) =>
 (gd (decide ((0 : Int) ≤ (cond (decide ((IntKind.wrap IntKind.i64 ((((List.length y5.1) : Nat) : Int) + (1 : Int))) < y5.2.2.2.1)) (IntKind.wrap IntKind.i64 ((((List.length y5.1) : Nat) : Int) + (1 : Int))) y5.2.2.2.1)))
 (gd (decide ((cond (decide ((IntKind.wrap IntKind.i64 ((((List.length y5.1) : Nat) : Int) + (1 : Int))) < y5.2.2.2.1)) (IntKind.wrap IntKind.i64 ((((List.length y5.1) : Nat) : Int) + (1 : Int))) y5.2.2.2.1) ≤ ((4294967296 : Nat) : Int)))
 (gd (decide ((0 : Int) ≤ (cond (decide ((IntKind.wrap IntKind.i64 ((((List.length y5.1) : Nat) : Int) + (1 : Int))) < y5.2.2.2.1)) (IntKind.wrap IntKind.i64 ((((List.length y5.1) : Nat) : Int) + (1 : Int))) y5.2.2.2.1)))
 (gd (decide ((cond (decide ((IntKind.wrap IntKind.i64 ((((List.length y5.1) : Nat) : Int) + (1 : Int))) < y5.2.2.2.1)) (IntKind.wrap IntKind.i64 ((((List.length y5.1) : Nat) : Int) + (1 : Int))) y5.2.2.2.1) ≤ (((Int.toNat (cond (decide ((IntKind.wrap IntKind.i64 ((((List.length y5.1) : Nat) : Int) + (1 : Int))) < y5.2.2.2.1)) (IntKind.wrap IntKind.i64 ((((List.length y5.1) : Nat) : Int) + (1 : Int))) y5.2.2.2.1)) : Nat) : Int)))
 (iter (F199_R11
 (fun y13 =>
 (gd (decide ((0 : Int) ≤ y13.2.1))
 (gd (decide (y13.2.1 < (((List.length y13.2.2.1) : Nat) : Int)))
 (Option.bind y13.2.2.1[(Int.toNat y13.2.1)]? fun y14 =>
 (gd (decide ((0 : Int) ≤ (IntKind.wrap IntKind.i64 (y13.2.1 + (1 : Int)))))
 (gd (decide ((IntKind.wrap IntKind.i64 (y13.2.1 + (1 : Int))) ≤ (((List.length (List.set y13.2.2.1 (Int.toNat y13.2.1) y13.1)) : Nat) : Int)))
 (some ((List.drop (Int.toNat (0 : Int)) (List.take (Int.toNat (IntKind.wrap IntKind.i64 (y13.2.1 + (1 : Int)))) (List.set y13.2.2.1 (Int.toNat y13.2.1) y13.1))), ()))))))))) fuel (y5.1, y5.2.1, y5.2.2.1, (IntKind.wrap IntKind.i64 ((cond (decide ((IntKind.wrap IntKind.i64 ((((List.length y5.1) : Nat) : Int) + (1 : Int))) < y5.2.2.2.1)) (IntKind.wrap IntKind.i64 ((((List.length y5.1) : Nat) : Int) + (1 : Int))) y5.2.2.2.1) - (1 : Int))), (0 : Int), (List.replicate (Int.toNat (cond (decide ((IntKind.wrap IntKind.i64 ((((List.length y5.1) : Nat) : Int) + (1 : Int))) < y5.2.2.2.1)) (IntKind.wrap IntKind.i64 ((((List.length y5.1) : Nat) : Int) + (1 : Int))) y5.2.2.2.1)) []), ()))))))
 (cond (decide (a3 < (0 : Int)))
 (Option.bind (F211 a0 a1) fun y3 =>
 (j4 (a0, a1, a2, (IntKind.wrap IntKind.i64 (y3.1 + (1 : Int))), ())))
 (j4 (a0, a1, a2, a3, ()))))))
noncomputable def C199 : Fun := ⟨[(.ro .str), (.ro .str), (.ro (.int .i64)), (.ro (.int .i64))], [((.slice .str), .z)], fun z => F199 z.1 z.2.1 z.2.2.1 z.2.2.2.1⟩
noncomputable def E199 : Env := ⟨66, tyTab tys, oneTab ones, fnTab [(211, C211), (212, C212)], false, [], [(3, [0, 1, 2, 3], []), (5, [0, 1, 2, 3], []), (7, [0, 1, 2, 3], []), (11, [0, 1, 2, 3, 9, 10], []), (12, [0, 1, 2, 3, 9, 10], []), (14, [0, 1, 2, 3, 9, 10, 11], []), (17, [0, 9, 10], []), (100000, [0, 9, 10], []), (100001, [0, 1, 2, 3, 9, 10], []), (99999, [8], [])], none, []⟩
noncomputable def L199 : List (LoopS (List (List UInt8) × Unit)) := [⟨11, ⟨[(0, (.pv .str)), (1, (.pv .str)), (2, (.pv (.int .i64))), (3, (.pv (.int .i64))), (9, (.ref (.slice .str) 248 [])), (10, (.pv (.int .i64)))], [(248, (.data false (.slice .str) (.own .z)))]⟩, fun κ => F199_R11 (fun y => κ.exit 0 (SSh.mk' ⟨[(0, (.pv .str)), (9, (.ref (.slice .str) 248 [])), (10, (.pv (.int .i64)))], [(248, (.data false (.slice .str) (.own .z)))]⟩ y))⟩]
theorem L199_11 : RoundEq E199 L199 L199[0] (nthLoop (codeOf Tryz.f199) 0) := fun κ N x => by kernel_rfl
theorem C199_ok : QuietOk Tryz.prog 199 C199 := tQ E199 L199 [nthLoop (codeOf Tryz.f199) 0] Tryz.func199 ty_ok (.cons C211_ok (.cons C212_ok .nil)) (.cons L199[0] (by kernel_rfl) L199_11 .nil)
noncomputable def F183 (a0 : List UInt8) (a1 : List UInt8) : Option (List (List UInt8) × Unit) :=
 (Option.bind (F199 a0 a1 (0 : Int) (-(1 : Int))) fun y0 =>
 (some (y0.1, ())))
noncomputable def C183 : Fun := ⟨[(.ro .str), (.ro .str)], [((.slice .str), .z)], fun z => F183 z.1 z.2.1⟩
noncomputable def E183 : Env := ⟨8, tyTab tys, oneTab ones, fnTab [(199, C199)], false, [], [(99999, [4], [])], none, []⟩
noncomputable def L183 : List (LoopS (List (List UInt8) × Unit)) := []
theorem C183_ok : QuietOk Tryz.prog 183 C183 := tQ E183 L183 [] Tryz.func183 ty_ok (.cons C199_ok .nil) .nil
noncomputable def F200_R2 (e0_0 : Unit → Option (Int × Unit)) (er_1 : Int × Unit → Option (Int × Unit)) (rec : List (List UInt8) × (List UInt8 → Option (Bool)) × Int × Int × Unit → Option (Int × Unit)) (x2 : List (List UInt8) × (List UInt8 → Option (Bool)) × Int × Int × Unit) : Option (Int × Unit) :=
 (cond (decide (x2.2.2.2.1 < x2.2.2.1))
 (gd (decide ((0 : Int) ≤ x2.2.2.2.1))
 (Option.bind x2.1[(Int.toNat x2.2.2.2.1)]? fun y5 =>
 (Option.bind (x2.2.1 y5) fun y6 =>
 (cond y6
 (er_1 (x2.2.2.2.1, ()))
 (rec (x2.1, x2.2.1, x2.2.2.1, (IntKind.wrap IntKind.i64 (x2.2.2.2.1 + (1 : Int))), ()))))))
 (e0_0 (())))
noncomputable def F200 (a0 : List (List UInt8)) (a1 : (List UInt8 → Option (Bool))) : Option (Int × Unit) :=
 (iter (F200_R2
 (fun y7 =>
 (some ((-(1 : Int)), ())))
 (fun y8 =>
 (some (y8.1, ())))) fuel (a0, a1, (((List.length a0) : Nat) : Int), (0 : Int), ()))
noncomputable def C200 : Fun := ⟨[(.ro (.slice .str)), (.fn .str .bool)], [((.int .i64), .z)], fun z => F200 z.1 z.2.1⟩
noncomputable def E200 : Env := ⟨19, tyTab tys, oneTab ones, fnTab [], false, [], [(2, [0, 1, 7, 8], []), (3, [0, 1, 7, 8], []), (6, [0, 1, 7, 8], []), (7, [], []), (100000, [], []), (100001, [0, 1, 7, 8], []), (99999, [4], [])], none, []⟩
noncomputable def L200 : List (LoopS (Int × Unit)) := [⟨2, ⟨[(0, (.pv (.slice .str))), (1, (.fnA .str .bool)), (7, (.pv (.int .i64))), (8, (.pv (.int .i64)))], []⟩, fun κ => F200_R2 (fun y => κ.exit 0 (SSh.mk' ⟨[], []⟩ y)) (fun y => κ.ret (SSh.mk' ⟨[(4, (.pv (.int .i64)))], []⟩ y))⟩]
theorem L200_2 : RoundEq E200 L200 L200[0] (nthLoop (codeOf Tryz.f200) 0) := fun κ N x => by kernel_rfl
theorem C200_ok : QuietOk Tryz.prog 200 C200 := tQ E200 L200 [nthLoop (codeOf Tryz.f200) 0] Tryz.func200 ty_ok .nil (.cons L200[0] (by kernel_rfl) L200_2 .nil)
noncomputable def F184 (a0 : List (List UInt8)) (a1 : (List UInt8 → Option (Bool))) : Option (Bool × Unit) :=
 (Option.bind (F200 a0 a1) fun y0 =>
 (some ((decide (y0.1 ≥ (0 : Int))), ())))
noncomputable def C184 : Fun := ⟨[(.ro (.slice .str)), (.fn .str .bool)], [(.bool, .z)], fun z => F184 z.1 z.2.1⟩
noncomputable def E184 : Env := ⟨9, tyTab tys, oneTab ones, fnTab [(200, C200)], false, [], [(99999, [4], [])], none, []⟩
noncomputable def L184 : List (LoopS (Bool × Unit)) := []
theorem C184_ok : QuietOk Tryz.prog 184 C184 := tQ E184 L184 [] Tryz.func184 ty_ok (.cons C200_ok .nil) .nil
noncomputable def F185 (a0 : List UInt8) : Option (Bool × Unit) :=
 (Option.bind (F101 a0) fun y0 =>
 (some ((!y0.1), ())))
noncomputable def C185 : Fun := ⟨[(.ro .str)], [(.bool, .z)], fun z => F185 z.1⟩
noncomputable def E185 : Env := ⟨6, tyTab tys, oneTab ones, fnTab [(101, C101)], false, [], [(99999, [2], [])], none, []⟩
noncomputable def L185 : List (LoopS (Bool × Unit)) := []
theorem C185_ok : QuietOk Tryz.prog 185 C185 := tQ E185 L185 [] Tryz.func185 ty_ok (.cons C101_ok .nil) .nil
noncomputable def F165 (a0 : List UInt8) : Option (Bool × Unit) :=
 (Option.bind (F183 a0 [(46 : UInt8)]) fun y0 =>
 (cond (decide ((((List.length a0) : Nat) : Int) ≤ (50 : Int)))
 (cond (decide ((((List.length y0.1) : Nat) : Int) ≤ (4 : Int)))
 (Option.bind (F184 y0.1 (fun (v3 : List UInt8) => (Option.map (fun (v4 : (Bool × Unit)) => v4.1) (F185 v3)))) fun y1 =>
 (some ((!y1.1), ())))
 (some (false, ())))
 (some (false, ()))))
noncomputable def C165 : Fun := ⟨[(.ro .str)], [(.bool, .z)], fun z => F165 z.1⟩
noncomputable def E165 : Env := ⟨19, tyTab tys, oneTab ones, fnTab [(183, C183), (184, C184), (185, C185)], false, [], [(99999, [2], [])], none, []⟩
noncomputable def L165 : List (LoopS (Bool × Unit)) := []
theorem C165_ok : QuietOk Tryz.prog 165 C165 := tQ E165 L165 [] Tryz.func165 ty_ok (.cons C183_ok (.cons C184_ok (.cons C185_ok .nil))) .nil
noncomputable def F136 (a0 : D190) : Option (Bool × Unit) :=
 (Option.bind (F165 a0.1) fun y0 =>
 (some (y0.1, ())))
noncomputable def C136 : Fun := ⟨[(.ro Y190)], [(.bool, .z)], fun z => F136 z.1⟩
noncomputable def E136 : Env := ⟨6, tyTab tys, oneTab ones, fnTab [(165, C165)], false, [], [(99999, [2], [])], none, []⟩
noncomputable def L136 : List (LoopS (Bool × Unit)) := []
theorem C136_ok : QuietOk Tryz.prog 136 C136 := tQ E136 L136 [] Tryz.func136 ty_ok (.cons C165_ok .nil) .nil
noncomputable def F135 (a0 : D190) : Option (Bool × Unit) :=
 (Option.bind (F136 a0) fun y0 =>
 (some ((!y0.1), ())))
noncomputable def C135 : Fun := ⟨[(.ro Y190)], [(.bool, .z)], fun z => F135 z.1⟩
noncomputable def E135 : Env := ⟨6, tyTab tys, oneTab ones, fnTab [(136, C136)], false, [], [(99999, [2], [])], none, []⟩
noncomputable def L135 : List (LoopS (Bool × Unit)) := []
theorem C135_ok : QuietOk Tryz.prog 135 C135 := tQ E135 L135 [] Tryz.func135 ty_ok (.cons C136_ok .nil) .nil
noncomputable def F98 (a0 : D138) : Option (Bool × Unit) :=
 (Option.bind (F101 a0.1) fun y1 =>
 (cond (!y1.1)
 (some (false, ()))
 (Option.bind (F40 (((List.length a0.2.1) : Nat) : Int) (1 : Int) (2 : Int)) fun y2 =>
 (cond (!y2.1)
 (some (false, ()))
 (Option.bind (F134 a0.2.1 (fun (v5 : D190) => (Option.map (fun (v6 : (Bool × Unit)) => v6.1) (F135 v5)))) fun y3 =>
 (cond y3.1
 (some (false, ()))
 (cond ((((List.length a0.2.1) : Nat) : Int) == (1 : Int))
 (some (true, ()))
 (Option.bind a0.2.1[(Int.toNat (0 : Int))]? fun y4 =>
 (Option.bind a0.2.1[(Int.toNat (1 : Int))]? fun y5 =>
 (some ((!(y4.1 == y5.1)), ())))))))))))
noncomputable def C98 : Fun := ⟨[(.ro Y138)], [(.bool, .z)], fun z => F98 z.1⟩
noncomputable def E98 : Env := ⟨36, tyTab tys, oneTab ones, fnTab [(40, C40), (101, C101), (134, C134), (135, C135)], false, [], [(3, [1], []), (99999, [2], [])], none, []⟩
noncomputable def L98 : List (LoopS (Bool × Unit)) := []
theorem C98_ok : QuietOk Tryz.prog 98 C98 := tQ E98 L98 [] Tryz.func98 ty_ok (.cons C40_ok (.cons C101_ok (.cons C134_ok (.cons C135_ok .nil)))) .nil
noncomputable def F137_R2 (e0_0 : Unit → Option (Int × Unit)) (er_1 : Int × Unit → Option (Int × Unit)) (rec : List (D138) × (D138 → Option (Bool)) × Int × Int × Unit → Option (Int × Unit)) (x2 : List (D138) × (D138 → Option (Bool)) × Int × Int × Unit) : Option (Int × Unit) :=
 (cond (decide (x2.2.2.2.1 < x2.2.2.1))
 (gd (decide ((0 : Int) ≤ x2.2.2.2.1))
 (Option.bind x2.1[(Int.toNat x2.2.2.2.1)]? fun y5 =>
 (Option.bind (x2.2.1 y5) fun y6 =>
 (cond y6
 (er_1 (x2.2.2.2.1, ()))
 (rec (x2.1, x2.2.1, x2.2.2.1, (IntKind.wrap IntKind.i64 (x2.2.2.2.1 + (1 : Int))), ()))))))
 (e0_0 (())))
noncomputable def F137 (a0 : List (D138)) (a1 : (D138 → Option (Bool))) : Option (Int × Unit) :=
 (iter (F137_R2
 (fun y7 =>
 (some ((-(1 : Int)), ())))
 (fun y8 =>
 (some (y8.1, ())))) fuel (a0, a1, (((List.length a0) : Nat) : Int), (0 : Int), ()))
noncomputable def C137 : Fun := ⟨[(.ro (.slice Y138)), (.fn Y138 .bool)], [((.int .i64), .z)], fun z => F137 z.1 z.2.1⟩
noncomputable def E137 : Env := ⟨19, tyTab tys, oneTab ones, fnTab [], false, [], [(2, [0, 1, 7, 8], []), (3, [0, 1, 7, 8], []), (6, [0, 1, 7, 8], []), (7, [], []), (100000, [], []), (100001, [0, 1, 7, 8], []), (99999, [4], [])], none, []⟩
noncomputable def L137 : List (LoopS (Int × Unit)) := [⟨2, ⟨[(0, (.pv (.slice Y138))), (1, (.fnA Y138 .bool)), (7, (.pv (.int .i64))), (8, (.pv (.int .i64)))], []⟩, fun κ => F137_R2 (fun y => κ.exit 0 (SSh.mk' ⟨[], []⟩ y)) (fun y => κ.ret (SSh.mk' ⟨[(4, (.pv (.int .i64)))], []⟩ y))⟩]
theorem L137_2 : RoundEq E137 L137 L137[0] (nthLoop (codeOf Tryz.f137) 0) := fun κ N x => by kernel_rfl
theorem C137_ok : QuietOk Tryz.prog 137 C137 := tQ E137 L137 [nthLoop (codeOf Tryz.f137) 0] Tryz.func137 ty_ok .nil (.cons L137[0] (by kernel_rfl) L137_2 .nil)
noncomputable def F138 (a0 : D138) (a1 : List UInt8) : Option (Bool × Unit) :=
 (some ((a0.1 == a1), ()))
noncomputable def C138 : Fun := ⟨[(.ro Y138), (.rp .str)], [(.bool, .z)], fun z => F138 z.1 z.2.1⟩
noncomputable def E138 : Env := ⟨8, tyTab tys, oneTab ones, fnTab [], false, [], [(99999, [3], [])], none, []⟩
noncomputable def L138 : List (LoopS (Bool × Unit)) := []
theorem C138_ok : QuietOk Tryz.prog 138 C138 := tQ E138 L138 [] Tryz.func138 ty_ok .nil .nil
noncomputable def F99 (a0 : D62) (a1 : List UInt8) : Option (Int × Unit) :=
 (Option.bind (F137 a0.2.2.1 (fun (v3 : D138) => (Option.map (fun (v4 : (Bool × Unit)) => v4.1) (F138 v3 a1)))) fun y0 =>
 (some (y0.1, ())))
noncomputable def C99 : Fun := ⟨[(.ro Y62), (.ro .str)], [((.int .i64), .z)], fun z => F99 z.1 z.2.1⟩
noncomputable def E99 : Env := ⟨9, tyTab tys, oneTab ones, fnTab [(137, C137), (138, C138)], false, [], [(99999, [4], [])], none, []⟩
noncomputable def L99 : List (LoopS (Int × Unit)) := []
theorem C99_ok : QuietOk Tryz.prog 99 C99 := tQ E99 L99 [] Tryz.func99 ty_ok (.cons C137_ok (.cons C138_ok .nil)) .nil
noncomputable def F105 (a0 : Int) : Option (Bool × Unit) :=
 (Option.bind (F40 a0 (1 : Int) (10000 : Int)) fun y0 =>
 (some (y0.1, ())))
noncomputable def C105 : Fun := ⟨[(.ro (.int .i64))], [(.bool, .z)], fun z => F105 z.1⟩
noncomputable def E105 : Env := ⟨5, tyTab tys, oneTab ones, fnTab [(40, C40)], false, [], [(99999, [2], [])], none, []⟩
noncomputable def L105 : List (LoopS (Bool × Unit)) := []
theorem C105_ok : QuietOk Tryz.prog 105 C105 := tQ E105 L105 [] Tryz.func105 ty_ok (.cons C40_ok .nil) .nil
noncomputable def F213 (a0 : D190) (a1 : Int) : Option (List UInt8 × D190 × Unit) :=
 (cond (decide (a1 > (((List.length a0.1) : Nat) : Int)))
 (Option.bind (F227 [(0 : UInt8)] a1) fun y1 =>
 (some (y1.1, ((a0.1, (true, a0.2.2)), ()))))
 (gd (decide ((0 : Int) ≤ a1))
 (gd (decide (a1 ≤ (((List.length a0.1) : Nat) : Int)))
 (gd (decide ((((List.length a0.1) : Nat) : Int) ≤ (((List.length a0.1) : Nat) : Int)))
 (gd (decide ((0 : Int) ≤ a1))
 (gd (decide (a1 ≤ (((Int.toNat (((List.length a0.1) : Nat) : Int)) : Nat) : Int)))
 (some ((List.drop (Int.toNat (0 : Int)) (List.take (Int.toNat a1) a0.1)), (((List.drop (Int.toNat a1) (List.take (Int.toNat (((List.length a0.1) : Nat) : Int)) a0.1)), a0.2), ())))))))))
noncomputable def C213 : Fun := ⟨[(.io Y190 .z), (.ro (.int .i64))], [(.str, .z)], fun z => F213 z.1 z.2.1⟩
noncomputable def E213 : Env := ⟨34, tyTab tys, oneTab ones, fnTab [(227, C227)], false, [], [(4, [0, 1], [4]), (99999, [4], [4])], none, []⟩
noncomputable def L213 : List (LoopS (List UInt8 × D190 × Unit)) := []
theorem C213_ok : IoOk Tryz.prog 213 C213 := tI E213 L213 [] Tryz.func213 ty_ok (.cons C227_ok .nil) (fun p => .nil)
noncomputable def F228_R3 (e0_0 : Int × Unit → Option (Int × Unit)) (rec : Int × List (Int) × Int × Int × Unit → Option (Int × Unit)) (x2 : Int × List (Int) × Int × Int × Unit) : Option (Int × Unit) :=
 (cond (decide (x2.2.2.2.1 < x2.2.2.1))
 (gd (decide ((0 : Int) ≤ x2.2.2.2.1))
 (Option.bind x2.2.1[(Int.toNat x2.2.2.2.1)]? fun y4 =>
 (rec ((IntKind.wrap IntKind.i64 (((BitVec.toNat (HOr.hOr (BitVec.ofInt (IntKind.bits IntKind.i64) (IntKind.wrap IntKind.i64 (x2.1 * ((2 : Int) ^ (Min.min (Int.toNat (8 : Int)) (IntKind.bits IntKind.i64)))))) (BitVec.ofInt (IntKind.bits IntKind.i64) (IntKind.wrap IntKind.i64 y4)))) : Nat) : Int)), x2.2.1, x2.2.2.1, (IntKind.wrap IntKind.i64 (x2.2.2.2.1 + (1 : Int))), ()))))
 (e0_0 (x2.1, ())))
noncomputable def F228 (a0 : List (Int)) : Option (Int × Unit) :=
 (iter (F228_R3
 (fun y5 =>
 (some (y5.1, ())))) fuel ((0 : Int), a0, (((List.length a0) : Nat) : Int), (0 : Int), ()))
noncomputable def C228 : Fun := ⟨[(.ro (.slice (.int .u8)))], [((.int .i64), .z)], fun z => F228 z.1⟩
noncomputable def E228 : Env := ⟨19, tyTab tys, oneTab ones, fnTab [], false, [], [(3, [3, 6, 7, 8], []), (4, [3, 6, 7, 8], []), (7, [3], []), (100000, [3], []), (100001, [3, 6, 7, 8], []), (99999, [2], [])], none, []⟩
noncomputable def L228 : List (LoopS (Int × Unit)) := [⟨3, ⟨[(3, (.pv (.int .i64))), (6, (.pv (.slice (.int .u8)))), (7, (.pv (.int .i64))), (8, (.pv (.int .i64)))], []⟩, fun κ => F228_R3 (fun y => κ.exit 0 (SSh.mk' ⟨[(3, (.pv (.int .i64)))], []⟩ y))⟩]
theorem L228_3 : RoundEq E228 L228 L228[0] (nthLoop (codeOf Tryz.f228) 0) := fun κ N x => by kernel_rfl
theorem C228_ok : QuietOk Tryz.prog 228 C228 := tQ E228 L228 [nthLoop (codeOf Tryz.f228) 0] Tryz.func228 ty_ok .nil (.cons L228[0] (by kernel_rfl) L228_3 .nil)
noncomputable def F214 (a0 : D190) (a1 : Int) : Option (Int × D190 × Unit) :=
 (Option.bind (F213 a0 a1) fun y0 =>
 (Option.bind (F228 (List.map (fun (v4 : UInt8) => (((UInt8.toNat v4) : Nat) : Int)) y0.1)) fun y1 =>
 (some (y1.1, (y0.2.1, ())))))
noncomputable def C214 : Fun := ⟨[(.io Y190 .z), (.ro (.int .i64))], [((.int .i64), .z)], fun z => F214 z.1 z.2.1⟩
noncomputable def E214 : Env := ⟨10, tyTab tys, oneTab ones, fnTab [(213, C213), (228, C228)], false, [], [(99999, [4], [4])], none, []⟩
noncomputable def L214 : List (LoopS (Int × D190 × Unit)) := []
theorem C214_ok : IoOk Tryz.prog 214 C214 := tI E214 L214 [] Tryz.func214 ty_ok (.consIo C213_ok (.cons C228_ok .nil)) (fun p => .nil)
noncomputable def F215 (a0 : D190) : Option (D83 × D190 × Unit) :=
 (Option.bind (F214 a0 (1 : Int)) fun y0 =>
 (let j11 : D190 × D83 × D83 × Unit → Option (D83 × D190 × Unit) := fun (y12 : D190 × D83 × D83 × Unit) =>
 (some (y12.2.2.1, (y12.1, ())))
 (cond (y0.1 == (1 : Int))
 (Option.bind (F214 y0.2.1 (1 : Int)) fun y2 =>
 (j11 (y2.2.1, ((0 : Int), ((0 : Int), ([], ()))), (y0.1, (y2.1, ([], ()))), ())))
 (cond (y0.1 == (2 : Int))
 (Option.bind (F214 y0.2.1 (8 : Int)) fun y3 =>
 (j11 (y3.2.1, ((0 : Int), ((0 : Int), ([], ()))), (y0.1, ((IntKind.wrap IntKind.i64 (y3.1 - (4611686018427387904 : Int))), ([], ()))), ())))
 (cond (y0.1 == (3 : Int))
 (cond (y0.1 == (3 : Int))
 (Option.bind (F214 y0.2.1 (2 : Int)) fun y5 =>
 (Option.bind (F213 y5.2.1 y5.1) fun y6 =>
 (j11 (y6.2.1, ((0 : Int), ((0 : Int), ([], ()))), (y0.1, ((0 : Int), (y6.1, ()))), ()))))
 (j11 (y0.2.1, ((0 : Int), ((0 : Int), ([], ()))), (y0.1, ((0 : Int), ([], ()))), ())))
 (cond (y0.1 == (4 : Int))
 (cond (y0.1 == (4 : Int))
 (Option.bind (F214 y0.2.1 (2 : Int)) fun y7 =>
 (Option.bind (F213 y7.2.1 y7.1) fun y8 =>
 (j11 (y8.2.1, ((0 : Int), ((0 : Int), ([], ()))), (y0.1, ((0 : Int), (y8.1, ()))), ()))))
 (j11 (y0.2.1, ((0 : Int), ((0 : Int), ([], ()))), (y0.1, ((0 : Int), ([], ()))), ())))
 (cond (y0.1 == (5 : Int))
 (Option.bind (F214 y0.2.1 (2 : Int)) fun y9 =>
 (Option.bind (F213 y9.2.1 y9.1) fun y10 =>
 (j11 (y10.2.1, ((0 : Int), ((0 : Int), ([], ()))), (y0.1, ((0 : Int), (y10.1, ()))), ()))))
 (j11 (y0.2.1, ((0 : Int), ((0 : Int), ([], ()))), (y0.1, ((0 : Int), ([], ()))), ())))))))))
noncomputable def C215 : Fun := ⟨[(.io Y190 .z)], [(Y83, .z)], fun z => F215 z.1⟩
noncomputable def E215 : Env := ⟨30, tyTab tys, oneTab ones, fnTab [(213, C213), (214, C214)], false, [], [(11, [2, 3], [4]), (100000, [2, 3], [4]), (99999, [2], [4])], none, []⟩
noncomputable def L215 : List (LoopS (D83 × D190 × Unit)) := []
theorem C215_ok : IoOk Tryz.prog 215 C215 := tI E215 L215 [] Tryz.func215 ty_ok (.consIo C213_ok (.consIo C214_ok .nil)) (fun p => .nil)
noncomputable def F201_R2 (e0_0 : D190 × List (D251) × Unit → Option (List (D251) × Bool × Unit)) (rec : D190 × List (D251) × Unit → Option (List (D251) × Bool × Unit)) (x2 : D190 × List (D251) × Unit) : Option (List (D251) × Bool × Unit) :=
 (cond (!(x2.1.1 == []))
 (cond (!x2.1.2.1)
 (Option.bind (F214 x2.1 (1 : Int)) fun y4 =>
 (Option.bind (F213 y4.2.1 y4.1) fun y5 =>
 (Option.bind (F215 y5.2.1) fun y6 =>
 (gd (decide (((List.length x2.2.1) + (List.length [(y5.1, (y6.1, ()))])) ≤ lim))
 (rec (y6.2.1, (x2.2.1 ++ [(y5.1, (y6.1, ()))]), ()))))))
 (e0_0 (x2.1, x2.2.1, ())))
 (e0_0 (x2.1, x2.2.1, ())))
noncomputable def F201 (a0 : D83) : Option (List (D251) × Bool × Unit) :=
 (iter (F201_R2
 (fun y7 =>
 (some (y7.2.1, ((!y7.1.2.1), ()))))) fuel ((a0.2.2.1, (false, ())), [], ()))
noncomputable def C201 : Fun := ⟨[(.ro Y83)], [((.slice Y251), .z), (.bool, .z)], fun z => F201 z.1⟩
noncomputable def E201 : Env := ⟨39, tyTab tys, oneTab ones, fnTab [(213, C213), (214, C214), (215, C215)], false, [], [(2, [4, 5], []), (3, [4, 5], []), (4, [4, 5], []), (100000, [4, 5], []), (100001, [4, 5], []), (99999, [2, 3], [])], none, []⟩
noncomputable def L201 : List (LoopS (List (D251) × Bool × Unit)) := [⟨2, ⟨[(4, (.ptr 72 [])), (5, (.ref (.slice Y251) 80 []))], [(72, (.data true Y190 .z)), (80, (.data false (.slice Y251) (.own .z)))]⟩, fun κ => F201_R2 (fun y => κ.exit 0 (SSh.mk' ⟨[(4, (.ptr 72 [])), (5, (.ref (.slice Y251) 80 []))], [(72, (.data true Y190 .z)), (80, (.data false (.slice Y251) (.own .z)))]⟩ y))⟩]
theorem L201_2 : RoundEq E201 L201 L201[0] (nthLoop (codeOf Tryz.f201) 0) := fun κ N x => by kernel_rfl
theorem C201_ok : QuietOk Tryz.prog 201 C201 := tQ E201 L201 [nthLoop (codeOf Tryz.f201) 0] Tryz.func201 ty_ok (.consIo C213_ok (.consIo C214_ok (.consIo C215_ok .nil))) (.cons L201[0] (by kernel_rfl) L201_2 .nil)
noncomputable def F172 (a0 : List UInt8) (a1 : List UInt8) : Option (Int × Unit) :=
 (Option.bind (F193 a0 a1) fun y0 =>
 (some (y0.1, ())))
noncomputable def C172 : Fun := ⟨[(.ro .str), (.ro .str)], [((.int .i64), .z)], fun z => F172 z.1 z.2.1⟩
noncomputable def E172 : Env := ⟨8, tyTab tys, oneTab ones, fnTab [], false, [], [(99999, [4], [])], none, [(193, C193)]⟩
noncomputable def L172 : List (LoopS (Int × Unit)) := []
theorem C172_ok : QuietOk Tryz.prog 172 C172 := tQ E172 L172 [] Tryz.func172 ty_ok .nil .nil (hx := (.cons C193_ok .nil))
noncomputable def F148 (a0 : List UInt8) (a1 : List UInt8) : Option (Int × Unit) :=
 (Option.bind (F172 a0 a1) fun y0 =>
 (some (y0.1, ())))
noncomputable def C148 : Fun := ⟨[(.ro .str), (.ro .str)], [((.int .i64), .z)], fun z => F148 z.1 z.2.1⟩
noncomputable def E148 : Env := ⟨8, tyTab tys, oneTab ones, fnTab [(172, C172)], false, [], [(99999, [4], [])], none, []⟩
noncomputable def L148 : List (LoopS (Int × Unit)) := []
theorem C148_ok : QuietOk Tryz.prog 148 C148 := tQ E148 L148 [] Tryz.func148 ty_ok (.cons C172_ok .nil) .nil
end Go.V
