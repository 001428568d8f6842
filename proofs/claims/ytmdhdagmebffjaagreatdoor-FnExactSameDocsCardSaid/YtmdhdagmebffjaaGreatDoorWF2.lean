/- What functions of the program compute, printed by a program of ours. No condition. -/
import Derived.Test.YtmdhdagmebffjaaGreatDoorWF1
namespace Go.V
open Go.Proofs
set_option maxRecDepth 100000
set_option linter.unusedVariables false
noncomputable def F88 (a0 : D111) : Option (D111 × Unit) :=
 (Option.bind (F125 a0.2.1) fun y0 =>
 (some ((a0.1, (y0.1, ())), ())))
noncomputable def C88 : Fun := ⟨[(.ro Y111)], [(Y111, .z)], fun z => F88 z.1⟩
noncomputable def E88 : Env := ⟨12, tyTab tys, oneTab ones, fnTab [(125, C125)], false, [], [(99999, [2], [])], none, [], []⟩
noncomputable def L88 : List (LoopS (D111 × Unit)) := []
theorem C88_ok : QuietOk Tryz.prog 88 C88 := tQ E88 L88 [] Tryz.func88 ty_ok (.cons C125_ok .nil) .nil
noncomputable def F60_R3 (e0_0 : List (D111) × Unit → Option (List (D111) × Unit)) (rec : List (D111) × Int × List (D111) × Unit → Option (List (D111) × Unit)) (x2 : List (D111) × Int × List (D111) × Unit) : Option (List (D111) × Unit) :=
 (cond (decide (x2.2.1 < (((List.length x2.1) : Nat) : Int)))
 (gd (decide ((0 : Int) ≤ x2.2.1))
 (Option.bind x2.1[(Int.toNat x2.2.1)]? fun y4 =>
 (Option.bind (F88 y4) fun y5 =>
 (gd (decide ((0 : Int) ≤ x2.2.1))
 (gd (decide (x2.2.1 < (((List.length x2.2.2.1) : Nat) : Int)))
 (Option.bind x2.2.2.1[(Int.toNat x2.2.1)]? fun y6 =>
 (rec (x2.1, (IntKind.wrap IntKind.i64 (x2.2.1 + (1 : Int))), (List.set x2.2.2.1 (Int.toNat x2.2.1) y5.1), ()))))))))
 (e0_0 (x2.2.2.1, ())))
noncomputable def F60 (a0 : List (D111)) : Option (List (D111) × Unit) :=
 (gd (decide ((((List.length a0) : Nat) : Int) ≤ ((4294967296 : Nat) : Int)))
 (gd (decide ((((List.length a0) : Nat) : Int) ≤ (((Int.toNat (((List.length a0) : Nat) : Int)) : Nat) : Int)))
 (iter (F60_R3
 (fun y7 =>
 (some (y7.1, ())))) fuel (a0, (0 : Int), (List.replicate (Int.toNat (((List.length a0) : Nat) : Int)) ([], (([], ()), ()))), ()))))
noncomputable def C60 : Fun := ⟨[(.ro (.slice Y111))], [((.slice Y111), .z)], fun z => F60 z.1⟩
noncomputable def E60 : Env := ⟨23, tyTab tys, oneTab ones, fnTab [(88, C88)], false, [], [(3, [0, 3, 4], []), (5, [0, 3, 4], []), (6, [3], []), (100000, [3], []), (100001, [0, 3, 4], []), (99999, [2], [])], none, [], []⟩
noncomputable def L60 : List (LoopS (List (D111) × Unit)) := [⟨3, ⟨[(0, (.pv (.slice Y111))), (3, (.ref (.slice Y111) 56 [])), (4, (.pv (.int .i64)))], [(56, (.data false (.slice Y111) (.own .z)))]⟩, fun κ => F60_R3 (fun y => κ.exit 0 (SSh.mk' ⟨[(3, (.ref (.slice Y111) 56 []))], [(56, (.data false (.slice Y111) (.own .z)))]⟩ y))⟩]
theorem L60_3 : RoundEq E60 L60 L60[0] (nthLoop (codeOf Tryz.f60) 0) := fun κ N x => by kernel_rfl
theorem C60_ok : QuietOk Tryz.prog 60 C60 := tQ E60 L60 [nthLoop (codeOf Tryz.f60) 0] Tryz.func60 ty_ok (.cons C88_ok .nil) (.cons L60[0] (by kernel_rfl) L60_3 .nil)
noncomputable def F89 (a0 : D82) : Option (D82 × Unit) :=
 (Option.bind (F126 a0.2.2.2.1) fun y0 =>
 (some ((a0.1, (a0.2.1, (a0.2.2.1, (y0.1, ())))), ())))
noncomputable def C89 : Fun := ⟨[(.ro Y82)], [(Y82, .z)], fun z => F89 z.1⟩
noncomputable def E89 : Env := ⟨18, tyTab tys, oneTab ones, fnTab [(126, C126)], false, [], [(99999, [2], [])], none, [], []⟩
noncomputable def L89 : List (LoopS (D82 × Unit)) := []
theorem C89_ok : QuietOk Tryz.prog 89 C89 := tQ E89 L89 [] Tryz.func89 ty_ok (.cons C126_ok .nil) .nil
noncomputable def F61_R3 (e0_0 : List (D82) × Unit → Option (List (D82) × Unit)) (rec : List (D82) × Int × List (D82) × Unit → Option (List (D82) × Unit)) (x2 : List (D82) × Int × List (D82) × Unit) : Option (List (D82) × Unit) :=
 (cond (decide (x2.2.1 < (((List.length x2.1) : Nat) : Int)))
 (gd (decide ((0 : Int) ≤ x2.2.1))
 (Option.bind x2.1[(Int.toNat x2.2.1)]? fun y4 =>
 (Option.bind (F89 y4) fun y5 =>
 (gd (decide ((0 : Int) ≤ x2.2.1))
 (gd (decide (x2.2.1 < (((List.length x2.2.2.1) : Nat) : Int)))
 (Option.bind x2.2.2.1[(Int.toNat x2.2.1)]? fun y6 =>
 (rec (x2.1, (IntKind.wrap IntKind.i64 (x2.2.1 + (1 : Int))), (List.set x2.2.2.1 (Int.toNat x2.2.1) y5.1), ()))))))))
 (e0_0 (x2.2.2.1, ())))
noncomputable def F61 (a0 : List (D82)) : Option (List (D82) × Unit) :=
 (gd (decide ((((List.length a0) : Nat) : Int) ≤ ((4294967296 : Nat) : Int)))
 (gd (decide ((((List.length a0) : Nat) : Int) ≤ (((Int.toNat (((List.length a0) : Nat) : Int)) : Nat) : Int)))
 (iter (F61_R3
 (fun y7 =>
 (some (y7.1, ())))) fuel (a0, (0 : Int), (List.replicate (Int.toNat (((List.length a0) : Nat) : Int)) ([], ((0 : Int), (false, (((0 : Int), ((0 : Int), ([], ()))), ()))))), ()))))
noncomputable def C61 : Fun := ⟨[(.ro (.slice Y82))], [((.slice Y82), .z)], fun z => F61 z.1⟩
noncomputable def E61 : Env := ⟨23, tyTab tys, oneTab ones, fnTab [(89, C89)], false, [], [(3, [0, 3, 4], []), (5, [0, 3, 4], []), (6, [3], []), (100000, [3], []), (100001, [0, 3, 4], []), (99999, [2], [])], none, [], []⟩
noncomputable def L61 : List (LoopS (List (D82) × Unit)) := [⟨3, ⟨[(0, (.pv (.slice Y82))), (3, (.ref (.slice Y82) 56 [])), (4, (.pv (.int .i64)))], [(56, (.data false (.slice Y82) (.own .z)))]⟩, fun κ => F61_R3 (fun y => κ.exit 0 (SSh.mk' ⟨[(3, (.ref (.slice Y82) 56 []))], [(56, (.data false (.slice Y82) (.own .z)))]⟩ y))⟩]
theorem L61_3 : RoundEq E61 L61 L61[0] (nthLoop (codeOf Tryz.f61) 0) := fun κ N x => by kernel_rfl
theorem C61_ok : QuietOk Tryz.prog 61 C61 := tQ E61 L61 [nthLoop (codeOf Tryz.f61) 0] Tryz.func61 ty_ok (.cons C89_ok .nil) (.cons L61[0] (by kernel_rfl) L61_3 .nil)
noncomputable def F32 (a0 : D56) : Option (D56 × Unit) :=
 (Option.bind (F60 a0.2.2.1) fun y0 =>
 (Option.bind (F61 a0.2.2.2.1) fun y1 =>
 (some ((a0.1, (a0.2.1, (y0.1, (y1.1, ())))), ()))))
noncomputable def C32 : Fun := ⟨[(.ro Y56)], [(Y56, .z)], fun z => F32 z.1⟩
noncomputable def E32 : Env := ⟨19, tyTab tys, oneTab ones, fnTab [(60, C60), (61, C61)], false, [], [(99999, [2], [])], none, [], []⟩
noncomputable def L32 : List (LoopS (D56 × Unit)) := []
theorem C32_ok : QuietOk Tryz.prog 32 C32 := tQ E32 L32 [] Tryz.func32 ty_ok (.cons C60_ok (.cons C61_ok .nil)) .nil
noncomputable def F15_R3 (e0_0 : List (D56) × Unit → Option (List (D56) × Unit)) (rec : List (D56) × Int × List (D56) × Unit → Option (List (D56) × Unit)) (x2 : List (D56) × Int × List (D56) × Unit) : Option (List (D56) × Unit) :=
 (cond (decide (x2.2.1 < (((List.length x2.1) : Nat) : Int)))
 (gd (decide ((0 : Int) ≤ x2.2.1))
 (Option.bind x2.1[(Int.toNat x2.2.1)]? fun y4 =>
 (Option.bind (F32 y4) fun y5 =>
 (gd (decide ((0 : Int) ≤ x2.2.1))
 (gd (decide (x2.2.1 < (((List.length x2.2.2.1) : Nat) : Int)))
 (Option.bind x2.2.2.1[(Int.toNat x2.2.1)]? fun y6 =>
 (rec (x2.1, (IntKind.wrap IntKind.i64 (x2.2.1 + (1 : Int))), (List.set x2.2.2.1 (Int.toNat x2.2.1) y5.1), ()))))))))
 (e0_0 (x2.2.2.1, ())))
noncomputable def F15 (a0 : List (D56)) : Option (List (D56) × Unit) :=
 (gd (decide ((((List.length a0) : Nat) : Int) ≤ ((4294967296 : Nat) : Int)))
 (gd (decide ((((List.length a0) : Nat) : Int) ≤ (((Int.toNat (((List.length a0) : Nat) : Int)) : Nat) : Int)))
 (iter (F15_R3
 (fun y7 =>
 (some (y7.1, ())))) fuel (a0, (0 : Int), (List.replicate (Int.toNat (((List.length a0) : Nat) : Int)) ((0 : Int), ((0 : Int), ([], ([], ()))))), ()))))
noncomputable def C15 : Fun := ⟨[(.ro (.slice Y56))], [((.slice Y56), .z)], fun z => F15 z.1⟩
noncomputable def E15 : Env := ⟨23, tyTab tys, oneTab ones, fnTab [(32, C32)], false, [], [(3, [0, 3, 4], []), (5, [0, 3, 4], []), (6, [3], []), (100000, [3], []), (100001, [0, 3, 4], []), (99999, [2], [])], none, [], []⟩
noncomputable def L15 : List (LoopS (List (D56) × Unit)) := [⟨3, ⟨[(0, (.pv (.slice Y56))), (3, (.ref (.slice Y56) 56 [])), (4, (.pv (.int .i64)))], [(56, (.data false (.slice Y56) (.own .z)))]⟩, fun κ => F15_R3 (fun y => κ.exit 0 (SSh.mk' ⟨[(3, (.ref (.slice Y56) 56 []))], [(56, (.data false (.slice Y56) (.own .z)))]⟩ y))⟩]
theorem L15_3 : RoundEq E15 L15 L15[0] (nthLoop (codeOf Tryz.f15) 0) := fun κ N x => by kernel_rfl
theorem C15_ok : QuietOk Tryz.prog 15 C15 := tQ E15 L15 [nthLoop (codeOf Tryz.f15) 0] Tryz.func15 ty_ok (.cons C32_ok .nil) (.cons L15[0] (by kernel_rfl) L15_3 .nil)
noncomputable def F90 (a0 : D150) : Option (D150 × Unit) :=
 (Option.bind (F89 a0.1) fun y0 =>
 (Option.bind (F126 a0.2.1) fun y1 =>
 (some ((y0.1, (y1.1, (a0.2.2.1, ()))), ()))))
noncomputable def C90 : Fun := ⟨[(.ro Y150)], [(Y150, .z)], fun z => F90 z.1⟩
noncomputable def E90 : Env := ⟨16, tyTab tys, oneTab ones, fnTab [(89, C89), (126, C126)], false, [], [(99999, [2], [])], none, [], []⟩
noncomputable def L90 : List (LoopS (D150 × Unit)) := []
theorem C90_ok : QuietOk Tryz.prog 90 C90 := tQ E90 L90 [] Tryz.func90 ty_ok (.cons C89_ok (.cons C126_ok .nil)) .nil
noncomputable def F62_R3 (e0_0 : List (D150) × Unit → Option (List (D150) × Unit)) (rec : List (D150) × Int × List (D150) × Unit → Option (List (D150) × Unit)) (x2 : List (D150) × Int × List (D150) × Unit) : Option (List (D150) × Unit) :=
 (cond (decide (x2.2.1 < (((List.length x2.1) : Nat) : Int)))
 (gd (decide ((0 : Int) ≤ x2.2.1))
 (Option.bind x2.1[(Int.toNat x2.2.1)]? fun y4 =>
 (Option.bind (F90 y4) fun y5 =>
 (gd (decide ((0 : Int) ≤ x2.2.1))
 (gd (decide (x2.2.1 < (((List.length x2.2.2.1) : Nat) : Int)))
 (Option.bind x2.2.2.1[(Int.toNat x2.2.1)]? fun y6 =>
 (rec (x2.1, (IntKind.wrap IntKind.i64 (x2.2.1 + (1 : Int))), (List.set x2.2.2.1 (Int.toNat x2.2.1) y5.1), ()))))))))
 (e0_0 (x2.2.2.1, ())))
noncomputable def F62 (a0 : List (D150)) : Option (List (D150) × Unit) :=
 (gd (decide ((((List.length a0) : Nat) : Int) ≤ ((4294967296 : Nat) : Int)))
 (gd (decide ((((List.length a0) : Nat) : Int) ≤ (((Int.toNat (((List.length a0) : Nat) : Int)) : Nat) : Int)))
 (iter (F62_R3
 (fun y7 =>
 (some (y7.1, ())))) fuel (a0, (0 : Int), (List.replicate (Int.toNat (((List.length a0) : Nat) : Int)) (([], ((0 : Int), (false, (((0 : Int), ((0 : Int), ([], ()))), ())))), (((0 : Int), ((0 : Int), ([], ()))), (false, ())))), ()))))
noncomputable def C62 : Fun := ⟨[(.ro (.slice Y150))], [((.slice Y150), .z)], fun z => F62 z.1⟩
noncomputable def E62 : Env := ⟨23, tyTab tys, oneTab ones, fnTab [(90, C90)], false, [], [(3, [0, 3, 4], []), (5, [0, 3, 4], []), (6, [3], []), (100000, [3], []), (100001, [0, 3, 4], []), (99999, [2], [])], none, [], []⟩
noncomputable def L62 : List (LoopS (List (D150) × Unit)) := [⟨3, ⟨[(0, (.pv (.slice Y150))), (3, (.ref (.slice Y150) 56 [])), (4, (.pv (.int .i64)))], [(56, (.data false (.slice Y150) (.own .z)))]⟩, fun κ => F62_R3 (fun y => κ.exit 0 (SSh.mk' ⟨[(3, (.ref (.slice Y150) 56 []))], [(56, (.data false (.slice Y150) (.own .z)))]⟩ y))⟩]
theorem L62_3 : RoundEq E62 L62 L62[0] (nthLoop (codeOf Tryz.f62) 0) := fun κ N x => by kernel_rfl
theorem C62_ok : QuietOk Tryz.prog 62 C62 := tQ E62 L62 [nthLoop (codeOf Tryz.f62) 0] Tryz.func62 ty_ok (.cons C90_ok .nil) (.cons L62[0] (by kernel_rfl) L62_3 .nil)
noncomputable def F33 (a0 : D60) : Option (D60 × Unit) :=
 (Option.bind (F60 a0.2.2.1) fun y0 =>
 (Option.bind (F62 a0.2.2.2.1) fun y1 =>
 (some ((a0.1, (a0.2.1, (y0.1, (y1.1, (a0.2.2.2.2.1, (a0.2.2.2.2.2.1, ())))))), ()))))
noncomputable def C33 : Fun := ⟨[(.ro Y60)], [(Y60, .z)], fun z => F33 z.1⟩
noncomputable def E33 : Env := ⟨25, tyTab tys, oneTab ones, fnTab [(60, C60), (62, C62)], false, [], [(99999, [2], [])], none, [], []⟩
noncomputable def L33 : List (LoopS (D60 × Unit)) := []
theorem C33_ok : QuietOk Tryz.prog 33 C33 := tQ E33 L33 [] Tryz.func33 ty_ok (.cons C60_ok (.cons C62_ok .nil)) .nil
noncomputable def F16_R3 (e0_0 : List (D60) × Unit → Option (List (D60) × Unit)) (rec : List (D60) × Int × List (D60) × Unit → Option (List (D60) × Unit)) (x2 : List (D60) × Int × List (D60) × Unit) : Option (List (D60) × Unit) :=
 (cond (decide (x2.2.1 < (((List.length x2.1) : Nat) : Int)))
 (gd (decide ((0 : Int) ≤ x2.2.1))
 (Option.bind x2.1[(Int.toNat x2.2.1)]? fun y4 =>
 (Option.bind (F33 y4) fun y5 =>
 (gd (decide ((0 : Int) ≤ x2.2.1))
 (gd (decide (x2.2.1 < (((List.length x2.2.2.1) : Nat) : Int)))
 (Option.bind x2.2.2.1[(Int.toNat x2.2.1)]? fun y6 =>
 (rec (x2.1, (IntKind.wrap IntKind.i64 (x2.2.1 + (1 : Int))), (List.set x2.2.2.1 (Int.toNat x2.2.1) y5.1), ()))))))))
 (e0_0 (x2.2.2.1, ())))
noncomputable def F16 (a0 : List (D60)) : Option (List (D60) × Unit) :=
 (gd (decide ((((List.length a0) : Nat) : Int) ≤ ((4294967296 : Nat) : Int)))
 (gd (decide ((((List.length a0) : Nat) : Int) ≤ (((Int.toNat (((List.length a0) : Nat) : Int)) : Nat) : Int)))
 (iter (F16_R3
 (fun y7 =>
 (some (y7.1, ())))) fuel (a0, (0 : Int), (List.replicate (Int.toNat (((List.length a0) : Nat) : Int)) ((0 : Int), ((0 : Int), ([], ([], (false, (false, ()))))))), ()))))
noncomputable def C16 : Fun := ⟨[(.ro (.slice Y60))], [((.slice Y60), .z)], fun z => F16 z.1⟩
noncomputable def E16 : Env := ⟨23, tyTab tys, oneTab ones, fnTab [(33, C33)], false, [], [(3, [0, 3, 4], []), (5, [0, 3, 4], []), (6, [3], []), (100000, [3], []), (100001, [0, 3, 4], []), (99999, [2], [])], none, [], []⟩
noncomputable def L16 : List (LoopS (List (D60) × Unit)) := [⟨3, ⟨[(0, (.pv (.slice Y60))), (3, (.ref (.slice Y60) 56 [])), (4, (.pv (.int .i64)))], [(56, (.data false (.slice Y60) (.own .z)))]⟩, fun κ => F16_R3 (fun y => κ.exit 0 (SSh.mk' ⟨[(3, (.ref (.slice Y60) 56 []))], [(56, (.data false (.slice Y60) (.own .z)))]⟩ y))⟩]
theorem L16_3 : RoundEq E16 L16 L16[0] (nthLoop (codeOf Tryz.f16) 0) := fun κ N x => by kernel_rfl
theorem C16_ok : QuietOk Tryz.prog 16 C16 := tQ E16 L16 [nthLoop (codeOf Tryz.f16) 0] Tryz.func16 ty_ok (.cons C33_ok .nil) (.cons L16[0] (by kernel_rfl) L16_3 .nil)
noncomputable def F6 (a0 : D25) : Option (D25 × Unit) :=
 (Option.bind (F14 a0.1) fun y0 =>
 (Option.bind (F15 a0.2.1) fun y1 =>
 (Option.bind (F16 a0.2.2.1) fun y2 =>
 (some ((y0.1, (y1.1, (y2.1, (a0.2.2.2.1, ())))), ())))))
noncomputable def C6 : Fun := ⟨[(.ro Y25)], [(Y25, .z)], fun z => F6 z.1⟩
noncomputable def E6 : Env := ⟨20, tyTab tys, oneTab ones, fnTab [(14, C14), (15, C15), (16, C16)], false, [], [(99999, [2], [])], none, [], []⟩
noncomputable def L6 : List (LoopS (D25 × Unit)) := []
theorem C6_ok : QuietOk Tryz.prog 6 C6 := tQ E6 L6 [] Tryz.func6 ty_ok (.cons C14_ok (.cons C15_ok (.cons C16_ok .nil))) .nil
noncomputable def F36 (a0 : Int) (a1 : Int) (a2 : Int) : Option (Bool × Unit) :=
 (cond (decide (a1 ≤ a0))
 (some ((decide (a0 ≤ a2)), ()))
 (some (false, ())))
noncomputable def C36 : Fun := ⟨[(.ro (.int .i64)), (.ro (.int .i64)), (.ro (.int .i64))], [(.bool, .z)], fun z => F36 z.1 z.2.1 z.2.2.1⟩
noncomputable def E36 : Env := ⟨15, tyTab tys, oneTab ones, fnTab [], false, [], [(99999, [6], [])], none, [], []⟩
noncomputable def L36 : List (LoopS (Bool × Unit)) := []
theorem C36_ok : QuietOk Tryz.prog 36 C36 := tQ E36 L36 [] Tryz.func36 ty_ok .nil .nil
noncomputable def F161 (a0 : Int) : Option (Bool × Unit) :=
 (cond (decide (a0 ≥ (97 : Int)))
 (cond (decide (a0 ≤ (122 : Int)))
 (some (true, ()))
 (cond (decide (a0 ≥ (65 : Int)))
 (cond (decide (a0 ≤ (90 : Int)))
 (some (true, ()))
 (some ((a0 == (95 : Int)), ())))
 (some ((a0 == (95 : Int)), ()))))
 (cond (decide (a0 ≥ (65 : Int)))
 (cond (decide (a0 ≤ (90 : Int)))
 (some (true, ()))
 (some ((a0 == (95 : Int)), ())))
 (some ((a0 == (95 : Int)), ()))))
noncomputable def C161 : Fun := ⟨[(.ro (.int .u8))], [(.bool, .z)], fun z => F161 z.1⟩
noncomputable def E161 : Env := ⟨21, tyTab tys, oneTab ones, fnTab [], false, [], [(99999, [2], [])], none, [], []⟩
noncomputable def L161 : List (LoopS (Bool × Unit)) := []
theorem C161_ok : QuietOk Tryz.prog 161 C161 := tQ E161 L161 [] Tryz.func161 ty_ok .nil .nil
noncomputable def F162 (a0 : Int) : Option (Bool × Unit) :=
 (cond (decide (a0 ≥ (48 : Int)))
 (some ((decide (a0 ≤ (57 : Int))), ()))
 (some (false, ())))
noncomputable def C162 : Fun := ⟨[(.ro (.int .u8))], [(.bool, .z)], fun z => F162 z.1⟩
noncomputable def E162 : Env := ⟨9, tyTab tys, oneTab ones, fnTab [], false, [], [(99999, [2], [])], none, [], []⟩
noncomputable def L162 : List (LoopS (Bool × Unit)) := []
theorem C162_ok : QuietOk Tryz.prog 162 C162 := tQ E162 L162 [] Tryz.func162 ty_ok .nil .nil
noncomputable def F133_R2 (e0_0 : List UInt8 × Unit → Option (Bool × Unit)) (er_1 : Bool × Unit → Option (Bool × Unit)) (rec : List UInt8 × Int × Int × Unit → Option (Bool × Unit)) (x2 : List UInt8 × Int × Int × Unit) : Option (Bool × Unit) :=
 (cond (decide (x2.2.2.1 < x2.2.1))
 (let j9 : List UInt8 × Int × Int × Unit → Option (Bool × Unit) := fun (y10 : List UInt8 × Int × Int × Unit) =>
 (rec (y10.1, y10.2.1, (IntKind.wrap IntKind.i64 (y10.2.2.1 + (1 : Int))), ()))
 (gd (decide ((0 : Int) ≤ x2.2.2.1))
 (Option.bind x2.1[(Int.toNat x2.2.2.1)]? fun y5 =>
 (Option.bind (F161 (((UInt8.toNat y5) : Nat) : Int)) fun y6 =>
 (cond (!y6.1)
 (gd (decide ((0 : Int) ≤ x2.2.2.1))
 (Option.bind x2.1[(Int.toNat x2.2.2.1)]? fun y7 =>
 (Option.bind (F162 (((UInt8.toNat y7) : Nat) : Int)) fun y8 =>
 (cond (!y8.1)
 (er_1 (false, ()))
 (cond (x2.2.2.1 == (0 : Int))
 (er_1 (false, ()))
 (j9 (x2.1, x2.2.1, x2.2.2.1, ())))))))
 (j9 (x2.1, x2.2.1, x2.2.2.1, ())))))))
 (e0_0 (x2.1, ())))
noncomputable def F133 (a0 : List UInt8) : Option (Bool × Unit) :=
 (iter (F133_R2
 (fun y11 =>
 (Option.bind (F36 (((List.length y11.1) : Nat) : Int) (1 : Int) (40 : Int)) fun y13 =>
 (some (y13.1, ()))))
 (fun y12 =>
 (some (y12.1, ())))) fuel (a0, (((List.length a0) : Nat) : Int), (0 : Int), ()))
noncomputable def C133 : Fun := ⟨[(.ro .str)], [(.bool, .z)], fun z => F133 z.1⟩
noncomputable def E133 : Env := ⟨29, tyTab tys, oneTab ones, fnTab [(36, C36), (161, C161), (162, C162)], false, [], [(2, [0, 5, 6], []), (3, [0, 5, 6], []), (6, [0, 5, 6], []), (7, [0], []), (100000, [0], []), (100001, [0, 5, 6], []), (99999, [2], [])], none, [], []⟩
noncomputable def L133 : List (LoopS (Bool × Unit)) := [⟨2, ⟨[(0, (.pv .str)), (5, (.pv (.int .i64))), (6, (.pv (.int .i64)))], []⟩, fun κ => F133_R2 (fun y => κ.exit 0 (SSh.mk' ⟨[(0, (.pv .str))], []⟩ y)) (fun y => κ.ret (SSh.mk' ⟨[(2, (.pv .bool))], []⟩ y))⟩]
theorem L133_2 : RoundEq E133 L133 L133[0] (nthLoop (codeOf Tryz.f133) 0) := fun κ N x => by kernel_rfl
theorem C133_ok : QuietOk Tryz.prog 133 C133 := tQ E133 L133 [nthLoop (codeOf Tryz.f133) 0] Tryz.func133 ty_ok (.cons C36_ok (.cons C161_ok (.cons C162_ok .nil))) (.cons L133[0] (by kernel_rfl) L133_2 .nil)
noncomputable def F94 (a0 : List UInt8) : Option (Bool × Unit) :=
 (cond (decide ((((List.length a0) : Nat) : Int) ≤ (12 : Int)))
 (Option.bind (F133 a0) fun y0 =>
 (some (y0.1, ())))
 (some (false, ())))
noncomputable def C94 : Fun := ⟨[(.ro .str)], [(.bool, .z)], fun z => F94 z.1⟩
noncomputable def E94 : Env := ⟨10, tyTab tys, oneTab ones, fnTab [(133, C133)], false, [], [(99999, [2], [])], none, [], []⟩
noncomputable def L94 : List (LoopS (Bool × Unit)) := []
theorem C94_ok : QuietOk Tryz.prog 94 C94 := tQ E94 L94 [] Tryz.func94 ty_ok (.cons C133_ok .nil) .nil
noncomputable def F157_R2 (e0_0 : Unit → Option (Int × Unit)) (er_1 : Int × Unit → Option (Int × Unit)) (rec : List (D187) × (D187 → Option (Bool)) × Int × Int × Unit → Option (Int × Unit)) (x2 : List (D187) × (D187 → Option (Bool)) × Int × Int × Unit) : Option (Int × Unit) :=
 (cond (decide (x2.2.2.2.1 < x2.2.2.1))
 (gd (decide ((0 : Int) ≤ x2.2.2.2.1))
 (Option.bind x2.1[(Int.toNat x2.2.2.2.1)]? fun y5 =>
 (Option.bind (x2.2.1 y5) fun y6 =>
 (cond y6
 (er_1 (x2.2.2.2.1, ()))
 (rec (x2.1, x2.2.1, x2.2.2.1, (IntKind.wrap IntKind.i64 (x2.2.2.2.1 + (1 : Int))), ()))))))
 (e0_0 (())))
noncomputable def F157 (a0 : List (D187)) (a1 : (D187 → Option (Bool))) : Option (Int × Unit) :=
 (iter (F157_R2
 (fun y7 =>
 (some ((-(1 : Int)), ())))
 (fun y8 =>
 (some (y8.1, ())))) fuel (a0, a1, (((List.length a0) : Nat) : Int), (0 : Int), ()))
noncomputable def C157 : Fun := ⟨[(.ro (.slice Y187)), (.fn Y187 .bool)], [((.int .i64), .z)], fun z => F157 z.1 z.2.1⟩
noncomputable def E157 : Env := ⟨19, tyTab tys, oneTab ones, fnTab [], false, [], [(2, [0, 1, 7, 8], []), (3, [0, 1, 7, 8], []), (6, [0, 1, 7, 8], []), (7, [], []), (100000, [], []), (100001, [0, 1, 7, 8], []), (99999, [4], [])], none, [], []⟩
noncomputable def L157 : List (LoopS (Int × Unit)) := [⟨2, ⟨[(0, (.pv (.slice Y187))), (1, (.fnA Y187 .bool)), (7, (.pv (.int .i64))), (8, (.pv (.int .i64)))], []⟩, fun κ => F157_R2 (fun y => κ.exit 0 (SSh.mk' ⟨[], []⟩ y)) (fun y => κ.ret (SSh.mk' ⟨[(4, (.pv (.int .i64)))], []⟩ y))⟩]
theorem L157_2 : RoundEq E157 L157 L157[0] (nthLoop (codeOf Tryz.f157) 0) := fun κ N x => by kernel_rfl
theorem C157_ok : QuietOk Tryz.prog 157 C157 := tQ E157 L157 [nthLoop (codeOf Tryz.f157) 0] Tryz.func157 ty_ok .nil (.cons L157[0] (by kernel_rfl) L157_2 .nil)
noncomputable def F127 (a0 : List (D187)) (a1 : (D187 → Option (Bool))) : Option (Bool × Unit) :=
 (Option.bind (F157 a0 a1) fun y0 =>
 (some ((decide (y0.1 ≥ (0 : Int))), ())))
noncomputable def C127 : Fun := ⟨[(.ro (.slice Y187)), (.fn Y187 .bool)], [(.bool, .z)], fun z => F127 z.1 z.2.1⟩
noncomputable def E127 : Env := ⟨9, tyTab tys, oneTab ones, fnTab [(157, C157)], false, [], [(99999, [4], [])], none, [], []⟩
noncomputable def L127 : List (LoopS (Bool × Unit)) := []
theorem C127_ok : QuietOk Tryz.prog 127 C127 := tQ E127 L127 [] Tryz.func127 ty_ok (.cons C157_ok .nil) .nil
noncomputable def F225 (a0 : List UInt8) (a1 : Int) : Option (Int × Unit) :=
 (Option.bind (F235 a0 a1) fun y0 =>
 (some (y0.1, ())))
noncomputable def C225 : Fun := ⟨[(.ro .str), (.ro (.int .u8))], [((.int .i64), .z)], fun z => F225 z.1 z.2.1⟩
noncomputable def E225 : Env := ⟨8, tyTab tys, oneTab ones, fnTab [], false, [], [(99999, [4], [])], none, [(235, C235)], []⟩
noncomputable def L225 : List (LoopS (Int × Unit)) := []
theorem C225_ok : QuietOk Tryz.prog 225 C225 := tQ E225 L225 [] Tryz.func225 ty_ok .nil .nil (hx := (.cons C235_ok .nil))
noncomputable def F227 (a0 : Int) : Option (Int × Unit) :=
 (some ((IntKind.wrap IntKind.i64 (Int.tdiv (IntKind.wrap IntKind.i64 (a0 + (16 : Int))) (8 : Int))), ()))
noncomputable def C227 : Fun := ⟨[(.ro (.int .i64))], [((.int .i64), .z)], fun z => F227 z.1⟩
noncomputable def E227 : Env := ⟨6, tyTab tys, oneTab ones, fnTab [], false, [], [(99999, [2], [])], none, [], []⟩
noncomputable def L227 : List (LoopS (Int × Unit)) := []
theorem C227_ok : QuietOk Tryz.prog 227 C227 := tQ E227 L227 [] Tryz.func227 ty_ok .nil .nil
noncomputable def F219 (a0 : List UInt8) (a1 : List UInt8) : Option (Int × Unit) :=
 (cond ((((List.length a1) : Nat) : Int) == (0 : Int))
 (some ((0 : Int), ()))
 (cond (a1 == a0)
 (some ((0 : Int), ()))
 (cond ((((List.length a1) : Nat) : Int) == (1 : Int))
 (Option.bind a1[(Int.toNat (0 : Int))]? fun y1 =>
 (Option.bind (F225 a0 (((UInt8.toNat y1) : Nat) : Int)) fun y2 =>
 (some (y2.1, ()))))
 (gd (decide ((((List.length a1) : Nat) : Int) ≥ (((List.length a0) : Nat) : Int)))
 (some ((-(1 : Int)), ()))))))
noncomputable def C219 : Fun := ⟨[(.ro .str), (.ro .str)], [((.int .i64), .z)], fun z => F219 z.1 z.2.1⟩
noncomputable def E219 : Env := ⟨143, tyTab tys, oneTab ones, fnTab [(225, C225), (227, C227)], false, [], [(10, [0, 1, 5], []), (15, [0, 1, 5, 6, 7, 8, 9, 10], []), (16, [0, 1, 5, 6, 7, 8, 9, 10], []), (20, [0, 1, 5, 6, 7, 8, 9, 10, 11], []), (21, [0, 1, 5, 6, 7, 8, 9, 10], []), (23, [0, 1, 5, 6, 7, 8, 9, 10], []), (29, [], []), (34, [8, 13], []), (35, [], []), (100000, [0, 1, 5], []), (100001, [], []), (100002, [0, 1, 5, 6, 7, 8, 9, 10], []), (99999, [4], [])], none, [], []⟩
noncomputable def L219 : List (LoopS (Int × Unit)) := []
theorem C219_ok : QuietOk Tryz.prog 219 C219 := tQ E219 L219 [nthLoop (codeOf Tryz.f219) 0] Tryz.func219 ty_ok (.cons C225_ok (.cons C227_ok .nil)) (.skip (by kernel_rfl) .nil)
noncomputable def F205 (a0 : List UInt8) (a1 : List UInt8) : Option (Int × Unit) :=
 (Option.bind (F219 a0 a1) fun y0 =>
 (some (y0.1, ())))
noncomputable def C205 : Fun := ⟨[(.ro .str), (.ro .str)], [((.int .i64), .z)], fun z => F205 z.1 z.2.1⟩
noncomputable def E205 : Env := ⟨8, tyTab tys, oneTab ones, fnTab [(219, C219)], false, [], [(99999, [4], [])], none, [], []⟩
noncomputable def L205 : List (LoopS (Int × Unit)) := []
theorem C205_ok : QuietOk Tryz.prog 205 C205 := tQ E205 L205 [] Tryz.func205 ty_ok (.cons C219_ok .nil) .nil
noncomputable def F204_R6 (er_0 : Int × Unit → Option (Int × Unit)) (rec : List UInt8 × List UInt8 × Int × Unit → Option (Int × Unit)) (x5 : List UInt8 × List UInt8 × Int × Unit) : Option (Int × Unit) :=
 (Option.bind (F205 x5.1 x5.2.1) fun y6 =>
 (cond (y6.1 == (-(1 : Int)))
 (er_0 (x5.2.2.1, ()))
 (gd (decide ((((List.length x5.1) : Nat) : Int) ≤ (((List.length x5.1) : Nat) : Int)))
 (gd (decide ((0 : Int) ≤ (IntKind.wrap IntKind.i64 (y6.1 + (((List.length x5.2.1) : Nat) : Int)))))
 (gd (decide ((IntKind.wrap IntKind.i64 (y6.1 + (((List.length x5.2.1) : Nat) : Int))) ≤ (((Int.toNat (((List.length x5.1) : Nat) : Int)) : Nat) : Int)))
 (rec ((List.drop (Int.toNat (IntKind.wrap IntKind.i64 (y6.1 + (((List.length x5.2.1) : Nat) : Int)))) (List.take (Int.toNat (((List.length x5.1) : Nat) : Int)) x5.1)), x5.2.1, (IntKind.wrap IntKind.i64 (x5.2.2.1 + (1 : Int))), ())))))))
noncomputable def F204 (a0 : List UInt8) (a1 : List UInt8) : Option (Int × Unit) :=
 (cond ((((List.length a1) : Nat) : Int) == (0 : Int))
 none
 (cond ((((List.length a1) : Nat) : Int) == (1 : Int))
 (Option.bind a1[(Int.toNat (0 : Int))]? fun y2 =>
 (Option.bind (F218 a0 (((UInt8.toNat y2) : Nat) : Int)) fun y3 =>
 (some (y3.1, ()))))
 (iter (F204_R6
 (fun y8 =>
 (some (y8.1, ())))) fuel (a0, a1, (0 : Int), ()))))
noncomputable def C204 : Fun := ⟨[(.ro .str), (.ro .str)], [((.int .i64), .z)], fun z => F204 z.1 z.2.1⟩
noncomputable def E204 : Env := ⟨34, tyTab tys, oneTab ones, fnTab [(205, C205)], false, [], [(3, [0, 1], []), (5, [0, 1], []), (6, [0, 1, 5], []), (9, [0, 1, 5, 6], []), (100000, [], []), (100001, [0, 1, 5], []), (99999, [4], [])], none, [(218, C218)], []⟩
noncomputable def L204 : List (LoopS (Int × Unit)) := [⟨6, ⟨[(0, (.pv .str)), (1, (.pv .str)), (5, (.pv (.int .i64)))], []⟩, fun κ => F204_R6 (fun y => κ.ret (SSh.mk' ⟨[(4, (.pv (.int .i64)))], []⟩ y))⟩]
theorem L204_6 : RoundEq E204 L204 L204[0] (nthLoop (codeOf Tryz.f204) 0) := fun κ N x => by kernel_rfl
theorem C204_ok : QuietOk Tryz.prog 204 C204 := tQ E204 L204 [nthLoop (codeOf Tryz.f204) 0] Tryz.func204 ty_ok (.cons C205_ok .nil) (.cons L204[0] (by kernel_rfl) L204_6 .nil) (hx := (.cons C218_ok .nil))
noncomputable def F192_R11 (e0_0 : List UInt8 × Int × List (List UInt8) × Unit → Option (List (List UInt8) × Unit)) (rec : List UInt8 × List UInt8 × Int × Int × Int × List (List UInt8) × Unit → Option (List (List UInt8) × Unit)) (x8 : List UInt8 × List UInt8 × Int × Int × Int × List (List UInt8) × Unit) : Option (List (List UInt8) × Unit) :=
 (cond (decide (x8.2.2.2.2.1 < x8.2.2.2.1))
 (Option.bind (F205 x8.1 x8.2.1) fun y10 =>
 (cond (decide (y10.1 < (0 : Int)))
 (e0_0 (x8.1, x8.2.2.2.2.1, x8.2.2.2.2.2.1, ()))
 (gd (decide ((0 : Int) ≤ (IntKind.wrap IntKind.i64 (y10.1 + x8.2.2.1))))
 (gd (decide ((IntKind.wrap IntKind.i64 (y10.1 + x8.2.2.1)) ≤ (((List.length x8.1) : Nat) : Int)))
 (gd (decide ((0 : Int) ≤ x8.2.2.2.2.1))
 (gd (decide (x8.2.2.2.2.1 < (((List.length x8.2.2.2.2.2.1) : Nat) : Int)))
 (Option.bind x8.2.2.2.2.2.1[(Int.toNat x8.2.2.2.2.1)]? fun y12 =>
 (gd (decide ((((List.length x8.1) : Nat) : Int) ≤ (((List.length x8.1) : Nat) : Int)))
 (gd (decide ((0 : Int) ≤ (IntKind.wrap IntKind.i64 (y10.1 + (((List.length x8.2.1) : Nat) : Int)))))
 (gd (decide ((IntKind.wrap IntKind.i64 (y10.1 + (((List.length x8.2.1) : Nat) : Int))) ≤ (((Int.toNat (((List.length x8.1) : Nat) : Int)) : Nat) : Int)))
 (rec ((List.drop (Int.toNat (IntKind.wrap IntKind.i64 (y10.1 + (((List.length x8.2.1) : Nat) : Int)))) (List.take (Int.toNat (((List.length x8.1) : Nat) : Int)) x8.1)), x8.2.1, x8.2.2.1, x8.2.2.2.1, (IntKind.wrap IntKind.i64 (x8.2.2.2.2.1 + (1 : Int))), (List.set x8.2.2.2.2.2.1 (Int.toNat x8.2.2.2.2.1) (List.drop (Int.toNat (0 : Int)) (List.take (Int.toNat (IntKind.wrap IntKind.i64 (y10.1 + x8.2.2.1))) x8.1))), ()))))))))))))
 (e0_0 (x8.1, x8.2.2.2.2.1, x8.2.2.2.2.2.1, ())))
noncomputable def F192 (a0 : List UInt8) (a1 : List UInt8) (a2 : Int) (a3 : Int) : Option (List (List UInt8) × Unit) :=
 (cond (a3 == (0 : Int))
 (some ([], ()))
 (cond (a1 == [])
 none
 (let j4 : List UInt8 × List UInt8 × Int × Int × Unit → Option (List (List UInt8) × Unit) := fun (y5 : List UInt8 × List UInt8 × Int × Int × Unit) =>
 (gd (decide ((0 : Int) ≤ (cond (decide ((IntKind.wrap IntKind.i64 ((((List.length y5.1) : Nat) : Int) + (1 : Int))) < y5.2.2.2.1)) (IntKind.wrap IntKind.i64 ((((List.length y5.1) : Nat) : Int) + (1 : Int))) y5.2.2.2.1)))
 (gd (decide ((cond (decide ((IntKind.wrap IntKind.i64 ((((List.length y5.1) : Nat) : Int) + (1 : Int))) < y5.2.2.2.1)) (IntKind.wrap IntKind.i64 ((((List.length y5.1) : Nat) : Int) + (1 : Int))) y5.2.2.2.1) ≤ ((4294967296 : Nat) : Int)))
 (gd (decide ((0 : Int) ≤ (cond (decide ((IntKind.wrap IntKind.i64 ((((List.length y5.1) : Nat) : Int) + (1 : Int))) < y5.2.2.2.1)) (IntKind.wrap IntKind.i64 ((((List.length y5.1) : Nat) : Int) + (1 : Int))) y5.2.2.2.1)))
 (gd (decide ((cond (decide ((IntKind.wrap IntKind.i64 ((((List.length y5.1) : Nat) : Int) + (1 : Int))) < y5.2.2.2.1)) (IntKind.wrap IntKind.i64 ((((List.length y5.1) : Nat) : Int) + (1 : Int))) y5.2.2.2.1) ≤ (((Int.toNat (cond (decide ((IntKind.wrap IntKind.i64 ((((List.length y5.1) : Nat) : Int) + (1 : Int))) < y5.2.2.2.1)) (IntKind.wrap IntKind.i64 ((((List.length y5.1) : Nat) : Int) + (1 : Int))) y5.2.2.2.1)) : Nat) : Int)))
 (iter (F192_R11
 (fun y13 =>
 (gd (decide ((0 : Int) ≤ y13.2.1))
 (gd (decide (y13.2.1 < (((List.length y13.2.2.1) : Nat) : Int)))
 (Option.bind y13.2.2.1[(Int.toNat y13.2.1)]? fun y14 =>
 (gd (decide ((0 : Int) ≤ (IntKind.wrap IntKind.i64 (y13.2.1 + (1 : Int)))))
 (gd (decide ((IntKind.wrap IntKind.i64 (y13.2.1 + (1 : Int))) ≤ (((List.length (List.set y13.2.2.1 (Int.toNat y13.2.1) y13.1)) : Nat) : Int)))
 (some ((List.drop (Int.toNat (0 : Int)) (List.take (Int.toNat (IntKind.wrap IntKind.i64 (y13.2.1 + (1 : Int)))) (List.set y13.2.2.1 (Int.toNat y13.2.1) y13.1))), ()))))))))) fuel (y5.1, y5.2.1, y5.2.2.1, (IntKind.wrap IntKind.i64 ((cond (decide ((IntKind.wrap IntKind.i64 ((((List.length y5.1) : Nat) : Int) + (1 : Int))) < y5.2.2.2.1)) (IntKind.wrap IntKind.i64 ((((List.length y5.1) : Nat) : Int) + (1 : Int))) y5.2.2.2.1) - (1 : Int))), (0 : Int), (List.replicate (Int.toNat (cond (decide ((IntKind.wrap IntKind.i64 ((((List.length y5.1) : Nat) : Int) + (1 : Int))) < y5.2.2.2.1)) (IntKind.wrap IntKind.i64 ((((List.length y5.1) : Nat) : Int) + (1 : Int))) y5.2.2.2.1)) []), ()))))))
 (cond (decide (a3 < (0 : Int)))
 (Option.bind (F204 a0 a1) fun y3 =>
 (j4 (a0, a1, a2, (IntKind.wrap IntKind.i64 (y3.1 + (1 : Int))), ())))
 (j4 (a0, a1, a2, a3, ()))))))
noncomputable def C192 : Fun := ⟨[(.ro .str), (.ro .str), (.ro (.int .i64)), (.ro (.int .i64))], [((.slice .str), .z)], fun z => F192 z.1 z.2.1 z.2.2.1 z.2.2.2.1⟩
noncomputable def E192 : Env := ⟨66, tyTab tys, oneTab ones, fnTab [(204, C204), (205, C205)], false, [], [(3, [0, 1, 2, 3], []), (5, [0, 1, 2, 3], []), (7, [0, 1, 2, 3], []), (11, [0, 1, 2, 3, 9, 10], []), (12, [0, 1, 2, 3, 9, 10], []), (14, [0, 1, 2, 3, 9, 10, 11], []), (17, [0, 9, 10], []), (100000, [0, 9, 10], []), (100001, [0, 1, 2, 3, 9, 10], []), (99999, [8], [])], none, [], []⟩
noncomputable def L192 : List (LoopS (List (List UInt8) × Unit)) := [⟨11, ⟨[(0, (.pv .str)), (1, (.pv .str)), (2, (.pv (.int .i64))), (3, (.pv (.int .i64))), (9, (.ref (.slice .str) 248 [])), (10, (.pv (.int .i64)))], [(248, (.data false (.slice .str) (.own .z)))]⟩, fun κ => F192_R11 (fun y => κ.exit 0 (SSh.mk' ⟨[(0, (.pv .str)), (9, (.ref (.slice .str) 248 [])), (10, (.pv (.int .i64)))], [(248, (.data false (.slice .str) (.own .z)))]⟩ y))⟩]
theorem L192_11 : RoundEq E192 L192 L192[0] (nthLoop (codeOf Tryz.f192) 0) := fun κ N x => by kernel_rfl
theorem C192_ok : QuietOk Tryz.prog 192 C192 := tQ E192 L192 [nthLoop (codeOf Tryz.f192) 0] Tryz.func192 ty_ok (.cons C204_ok (.cons C205_ok .nil)) (.cons L192[0] (by kernel_rfl) L192_11 .nil)
noncomputable def F176 (a0 : List UInt8) (a1 : List UInt8) : Option (List (List UInt8) × Unit) :=
 (Option.bind (F192 a0 a1 (0 : Int) (-(1 : Int))) fun y0 =>
 (some (y0.1, ())))
noncomputable def C176 : Fun := ⟨[(.ro .str), (.ro .str)], [((.slice .str), .z)], fun z => F176 z.1 z.2.1⟩
noncomputable def E176 : Env := ⟨8, tyTab tys, oneTab ones, fnTab [(192, C192)], false, [], [(99999, [4], [])], none, [], []⟩
noncomputable def L176 : List (LoopS (List (List UInt8) × Unit)) := []
theorem C176_ok : QuietOk Tryz.prog 176 C176 := tQ E176 L176 [] Tryz.func176 ty_ok (.cons C192_ok .nil) .nil
noncomputable def F193_R2 (e0_0 : Unit → Option (Int × Unit)) (er_1 : Int × Unit → Option (Int × Unit)) (rec : List (List UInt8) × (List UInt8 → Option (Bool)) × Int × Int × Unit → Option (Int × Unit)) (x2 : List (List UInt8) × (List UInt8 → Option (Bool)) × Int × Int × Unit) : Option (Int × Unit) :=
 (cond (decide (x2.2.2.2.1 < x2.2.2.1))
 (gd (decide ((0 : Int) ≤ x2.2.2.2.1))
 (Option.bind x2.1[(Int.toNat x2.2.2.2.1)]? fun y5 =>
 (Option.bind (x2.2.1 y5) fun y6 =>
 (cond y6
 (er_1 (x2.2.2.2.1, ()))
 (rec (x2.1, x2.2.1, x2.2.2.1, (IntKind.wrap IntKind.i64 (x2.2.2.2.1 + (1 : Int))), ()))))))
 (e0_0 (())))
noncomputable def F193 (a0 : List (List UInt8)) (a1 : (List UInt8 → Option (Bool))) : Option (Int × Unit) :=
 (iter (F193_R2
 (fun y7 =>
 (some ((-(1 : Int)), ())))
 (fun y8 =>
 (some (y8.1, ())))) fuel (a0, a1, (((List.length a0) : Nat) : Int), (0 : Int), ()))
noncomputable def C193 : Fun := ⟨[(.ro (.slice .str)), (.fn .str .bool)], [((.int .i64), .z)], fun z => F193 z.1 z.2.1⟩
noncomputable def E193 : Env := ⟨19, tyTab tys, oneTab ones, fnTab [], false, [], [(2, [0, 1, 7, 8], []), (3, [0, 1, 7, 8], []), (6, [0, 1, 7, 8], []), (7, [], []), (100000, [], []), (100001, [0, 1, 7, 8], []), (99999, [4], [])], none, [], []⟩
noncomputable def L193 : List (LoopS (Int × Unit)) := [⟨2, ⟨[(0, (.pv (.slice .str))), (1, (.fnA .str .bool)), (7, (.pv (.int .i64))), (8, (.pv (.int .i64)))], []⟩, fun κ => F193_R2 (fun y => κ.exit 0 (SSh.mk' ⟨[], []⟩ y)) (fun y => κ.ret (SSh.mk' ⟨[(4, (.pv (.int .i64)))], []⟩ y))⟩]
theorem L193_2 : RoundEq E193 L193 L193[0] (nthLoop (codeOf Tryz.f193) 0) := fun κ N x => by kernel_rfl
theorem C193_ok : QuietOk Tryz.prog 193 C193 := tQ E193 L193 [nthLoop (codeOf Tryz.f193) 0] Tryz.func193 ty_ok .nil (.cons L193[0] (by kernel_rfl) L193_2 .nil)
noncomputable def F177 (a0 : List (List UInt8)) (a1 : (List UInt8 → Option (Bool))) : Option (Bool × Unit) :=
 (Option.bind (F193 a0 a1) fun y0 =>
 (some ((decide (y0.1 ≥ (0 : Int))), ())))
noncomputable def C177 : Fun := ⟨[(.ro (.slice .str)), (.fn .str .bool)], [(.bool, .z)], fun z => F177 z.1 z.2.1⟩
noncomputable def E177 : Env := ⟨9, tyTab tys, oneTab ones, fnTab [(193, C193)], false, [], [(99999, [4], [])], none, [], []⟩
noncomputable def L177 : List (LoopS (Bool × Unit)) := []
theorem C177_ok : QuietOk Tryz.prog 177 C177 := tQ E177 L177 [] Tryz.func177 ty_ok (.cons C193_ok .nil) .nil
noncomputable def F178 (a0 : List UInt8) : Option (Bool × Unit) :=
 (Option.bind (F94 a0) fun y0 =>
 (some ((!y0.1), ())))
noncomputable def C178 : Fun := ⟨[(.ro .str)], [(.bool, .z)], fun z => F178 z.1⟩
noncomputable def E178 : Env := ⟨6, tyTab tys, oneTab ones, fnTab [(94, C94)], false, [], [(99999, [2], [])], none, [], []⟩
noncomputable def L178 : List (LoopS (Bool × Unit)) := []
theorem C178_ok : QuietOk Tryz.prog 178 C178 := tQ E178 L178 [] Tryz.func178 ty_ok (.cons C94_ok .nil) .nil
noncomputable def F158 (a0 : List UInt8) : Option (Bool × Unit) :=
 (Option.bind (F176 a0 [(46 : UInt8)]) fun y0 =>
 (cond (decide ((((List.length a0) : Nat) : Int) ≤ (50 : Int)))
 (cond (decide ((((List.length y0.1) : Nat) : Int) ≤ (4 : Int)))
 (Option.bind (F177 y0.1 (fun (v3 : List UInt8) => (Option.map (fun (v4 : (Bool × Unit)) => v4.1) (F178 v3)))) fun y1 =>
 (some ((!y1.1), ())))
 (some (false, ())))
 (some (false, ()))))
noncomputable def C158 : Fun := ⟨[(.ro .str)], [(.bool, .z)], fun z => F158 z.1⟩
noncomputable def E158 : Env := ⟨19, tyTab tys, oneTab ones, fnTab [(176, C176), (177, C177), (178, C178)], false, [], [(99999, [2], [])], none, [], []⟩
noncomputable def L158 : List (LoopS (Bool × Unit)) := []
theorem C158_ok : QuietOk Tryz.prog 158 C158 := tQ E158 L158 [] Tryz.func158 ty_ok (.cons C176_ok (.cons C177_ok (.cons C178_ok .nil))) .nil
noncomputable def F129 (a0 : D187) : Option (Bool × Unit) :=
 (Option.bind (F158 a0.1) fun y0 =>
 (some (y0.1, ())))
noncomputable def C129 : Fun := ⟨[(.ro Y187)], [(.bool, .z)], fun z => F129 z.1⟩
noncomputable def E129 : Env := ⟨6, tyTab tys, oneTab ones, fnTab [(158, C158)], false, [], [(99999, [2], [])], none, [], []⟩
noncomputable def L129 : List (LoopS (Bool × Unit)) := []
theorem C129_ok : QuietOk Tryz.prog 129 C129 := tQ E129 L129 [] Tryz.func129 ty_ok (.cons C158_ok .nil) .nil
noncomputable def F128 (a0 : D187) : Option (Bool × Unit) :=
 (Option.bind (F129 a0) fun y0 =>
 (some ((!y0.1), ())))
noncomputable def C128 : Fun := ⟨[(.ro Y187)], [(.bool, .z)], fun z => F128 z.1⟩
noncomputable def E128 : Env := ⟨6, tyTab tys, oneTab ones, fnTab [(129, C129)], false, [], [(99999, [2], [])], none, [], []⟩
noncomputable def L128 : List (LoopS (Bool × Unit)) := []
theorem C128_ok : QuietOk Tryz.prog 128 C128 := tQ E128 L128 [] Tryz.func128 ty_ok (.cons C129_ok .nil) .nil
noncomputable def F91 (a0 : D137) : Option (Bool × Unit) :=
 (Option.bind (F94 a0.1) fun y1 =>
 (cond (!y1.1)
 (some (false, ()))
 (Option.bind (F36 (((List.length a0.2.1) : Nat) : Int) (1 : Int) (2 : Int)) fun y2 =>
 (cond (!y2.1)
 (some (false, ()))
 (Option.bind (F127 a0.2.1 (fun (v5 : D187) => (Option.map (fun (v6 : (Bool × Unit)) => v6.1) (F128 v5)))) fun y3 =>
 (cond y3.1
 (some (false, ()))
 (cond ((((List.length a0.2.1) : Nat) : Int) == (1 : Int))
 (some (true, ()))
 (Option.bind a0.2.1[(Int.toNat (0 : Int))]? fun y4 =>
 (Option.bind a0.2.1[(Int.toNat (1 : Int))]? fun y5 =>
 (some ((!(y4.1 == y5.1)), ())))))))))))
noncomputable def C91 : Fun := ⟨[(.ro Y137)], [(.bool, .z)], fun z => F91 z.1⟩
noncomputable def E91 : Env := ⟨36, tyTab tys, oneTab ones, fnTab [(36, C36), (94, C94), (127, C127), (128, C128)], false, [], [(3, [1], []), (99999, [2], [])], none, [], []⟩
noncomputable def L91 : List (LoopS (Bool × Unit)) := []
theorem C91_ok : QuietOk Tryz.prog 91 C91 := tQ E91 L91 [] Tryz.func91 ty_ok (.cons C36_ok (.cons C94_ok (.cons C127_ok (.cons C128_ok .nil)))) .nil
noncomputable def F130_R2 (e0_0 : Unit → Option (Int × Unit)) (er_1 : Int × Unit → Option (Int × Unit)) (rec : List (D137) × (D137 → Option (Bool)) × Int × Int × Unit → Option (Int × Unit)) (x2 : List (D137) × (D137 → Option (Bool)) × Int × Int × Unit) : Option (Int × Unit) :=
 (cond (decide (x2.2.2.2.1 < x2.2.2.1))
 (gd (decide ((0 : Int) ≤ x2.2.2.2.1))
 (Option.bind x2.1[(Int.toNat x2.2.2.2.1)]? fun y5 =>
 (Option.bind (x2.2.1 y5) fun y6 =>
 (cond y6
 (er_1 (x2.2.2.2.1, ()))
 (rec (x2.1, x2.2.1, x2.2.2.1, (IntKind.wrap IntKind.i64 (x2.2.2.2.1 + (1 : Int))), ()))))))
 (e0_0 (())))
noncomputable def F130 (a0 : List (D137)) (a1 : (D137 → Option (Bool))) : Option (Int × Unit) :=
 (iter (F130_R2
 (fun y7 =>
 (some ((-(1 : Int)), ())))
 (fun y8 =>
 (some (y8.1, ())))) fuel (a0, a1, (((List.length a0) : Nat) : Int), (0 : Int), ()))
noncomputable def C130 : Fun := ⟨[(.ro (.slice Y137)), (.fn Y137 .bool)], [((.int .i64), .z)], fun z => F130 z.1 z.2.1⟩
noncomputable def E130 : Env := ⟨19, tyTab tys, oneTab ones, fnTab [], false, [], [(2, [0, 1, 7, 8], []), (3, [0, 1, 7, 8], []), (6, [0, 1, 7, 8], []), (7, [], []), (100000, [], []), (100001, [0, 1, 7, 8], []), (99999, [4], [])], none, [], []⟩
noncomputable def L130 : List (LoopS (Int × Unit)) := [⟨2, ⟨[(0, (.pv (.slice Y137))), (1, (.fnA Y137 .bool)), (7, (.pv (.int .i64))), (8, (.pv (.int .i64)))], []⟩, fun κ => F130_R2 (fun y => κ.exit 0 (SSh.mk' ⟨[], []⟩ y)) (fun y => κ.ret (SSh.mk' ⟨[(4, (.pv (.int .i64)))], []⟩ y))⟩]
theorem L130_2 : RoundEq E130 L130 L130[0] (nthLoop (codeOf Tryz.f130) 0) := fun κ N x => by kernel_rfl
theorem C130_ok : QuietOk Tryz.prog 130 C130 := tQ E130 L130 [nthLoop (codeOf Tryz.f130) 0] Tryz.func130 ty_ok .nil (.cons L130[0] (by kernel_rfl) L130_2 .nil)
noncomputable def F131 (a0 : D137) (a1 : List UInt8) : Option (Bool × Unit) :=
 (some ((a0.1 == a1), ()))
noncomputable def C131 : Fun := ⟨[(.ro Y137), (.rp .str)], [(.bool, .z)], fun z => F131 z.1 z.2.1⟩
noncomputable def E131 : Env := ⟨8, tyTab tys, oneTab ones, fnTab [], false, [], [(99999, [3], [])], none, [], []⟩
noncomputable def L131 : List (LoopS (Bool × Unit)) := []
theorem C131_ok : QuietOk Tryz.prog 131 C131 := tQ E131 L131 [] Tryz.func131 ty_ok .nil .nil
noncomputable def F92 (a0 : D51) (a1 : List UInt8) : Option (Int × Unit) :=
 (Option.bind (F130 a0.2.2.1 (fun (v3 : D137) => (Option.map (fun (v4 : (Bool × Unit)) => v4.1) (F131 v3 a1)))) fun y0 =>
 (some (y0.1, ())))
noncomputable def C92 : Fun := ⟨[(.ro Y51), (.ro .str)], [((.int .i64), .z)], fun z => F92 z.1 z.2.1⟩
noncomputable def E92 : Env := ⟨9, tyTab tys, oneTab ones, fnTab [(130, C130), (131, C131)], false, [], [(99999, [4], [])], none, [], []⟩
noncomputable def L92 : List (LoopS (Int × Unit)) := []
theorem C92_ok : QuietOk Tryz.prog 92 C92 := tQ E92 L92 [] Tryz.func92 ty_ok (.cons C130_ok (.cons C131_ok .nil)) .nil
noncomputable def F98 (a0 : Int) : Option (Bool × Unit) :=
 (Option.bind (F36 a0 (1 : Int) (10000 : Int)) fun y0 =>
 (some (y0.1, ())))
noncomputable def C98 : Fun := ⟨[(.ro (.int .i64))], [(.bool, .z)], fun z => F98 z.1⟩
noncomputable def E98 : Env := ⟨5, tyTab tys, oneTab ones, fnTab [(36, C36)], false, [], [(99999, [2], [])], none, [], []⟩
noncomputable def L98 : List (LoopS (Bool × Unit)) := []
theorem C98_ok : QuietOk Tryz.prog 98 C98 := tQ E98 L98 [] Tryz.func98 ty_ok (.cons C36_ok .nil) .nil
noncomputable def F206 (a0 : D187) (a1 : Int) : Option (List UInt8 × D187 × Unit) :=
 (cond (decide (a1 > (((List.length a0.1) : Nat) : Int)))
 (Option.bind (F220 [(0 : UInt8)] a1) fun y1 =>
 (some (y1.1, ((a0.1, (true, a0.2.2)), ()))))
 (gd (decide ((0 : Int) ≤ a1))
 (gd (decide (a1 ≤ (((List.length a0.1) : Nat) : Int)))
 (gd (decide ((((List.length a0.1) : Nat) : Int) ≤ (((List.length a0.1) : Nat) : Int)))
 (gd (decide ((0 : Int) ≤ a1))
 (gd (decide (a1 ≤ (((Int.toNat (((List.length a0.1) : Nat) : Int)) : Nat) : Int)))
 (some ((List.drop (Int.toNat (0 : Int)) (List.take (Int.toNat a1) a0.1)), (((List.drop (Int.toNat a1) (List.take (Int.toNat (((List.length a0.1) : Nat) : Int)) a0.1)), a0.2), ())))))))))
noncomputable def C206 : Fun := ⟨[(.io Y187 .z), (.ro (.int .i64))], [(.str, .z)], fun z => F206 z.1 z.2.1⟩
noncomputable def E206 : Env := ⟨34, tyTab tys, oneTab ones, fnTab [(220, C220)], false, [], [(4, [0, 1], [4]), (99999, [4], [4])], none, [], []⟩
noncomputable def L206 : List (LoopS (List UInt8 × D187 × Unit)) := []
theorem C206_ok : IoOk Tryz.prog 206 C206 := tI E206 L206 [] Tryz.func206 ty_ok (.cons C220_ok .nil) (fun p => .nil)
noncomputable def F221_R3 (e0_0 : Int × Unit → Option (Int × Unit)) (rec : Int × List (Int) × Int × Int × Unit → Option (Int × Unit)) (x2 : Int × List (Int) × Int × Int × Unit) : Option (Int × Unit) :=
 (cond (decide (x2.2.2.2.1 < x2.2.2.1))
 (gd (decide ((0 : Int) ≤ x2.2.2.2.1))
 (Option.bind x2.2.1[(Int.toNat x2.2.2.2.1)]? fun y4 =>
 (rec ((IntKind.wrap IntKind.i64 (((BitVec.toNat (HOr.hOr (BitVec.ofInt (IntKind.bits IntKind.i64) (IntKind.wrap IntKind.i64 (x2.1 * ((2 : Int) ^ (Min.min (Int.toNat (8 : Int)) (IntKind.bits IntKind.i64)))))) (BitVec.ofInt (IntKind.bits IntKind.i64) (IntKind.wrap IntKind.i64 y4)))) : Nat) : Int)), x2.2.1, x2.2.2.1, (IntKind.wrap IntKind.i64 (x2.2.2.2.1 + (1 : Int))), ()))))
 (e0_0 (x2.1, ())))
noncomputable def F221 (a0 : List (Int)) : Option (Int × Unit) :=
 (iter (F221_R3
 (fun y5 =>
 (some (y5.1, ())))) fuel ((0 : Int), a0, (((List.length a0) : Nat) : Int), (0 : Int), ()))
noncomputable def C221 : Fun := ⟨[(.ro (.slice (.int .u8)))], [((.int .i64), .z)], fun z => F221 z.1⟩
noncomputable def E221 : Env := ⟨19, tyTab tys, oneTab ones, fnTab [], false, [], [(3, [3, 6, 7, 8], []), (4, [3, 6, 7, 8], []), (7, [3], []), (100000, [3], []), (100001, [3, 6, 7, 8], []), (99999, [2], [])], none, [], []⟩
noncomputable def L221 : List (LoopS (Int × Unit)) := [⟨3, ⟨[(3, (.pv (.int .i64))), (6, (.pv (.slice (.int .u8)))), (7, (.pv (.int .i64))), (8, (.pv (.int .i64)))], []⟩, fun κ => F221_R3 (fun y => κ.exit 0 (SSh.mk' ⟨[(3, (.pv (.int .i64)))], []⟩ y))⟩]
theorem L221_3 : RoundEq E221 L221 L221[0] (nthLoop (codeOf Tryz.f221) 0) := fun κ N x => by kernel_rfl
theorem C221_ok : QuietOk Tryz.prog 221 C221 := tQ E221 L221 [nthLoop (codeOf Tryz.f221) 0] Tryz.func221 ty_ok .nil (.cons L221[0] (by kernel_rfl) L221_3 .nil)
noncomputable def F207 (a0 : D187) (a1 : Int) : Option (Int × D187 × Unit) :=
 (Option.bind (F206 a0 a1) fun y0 =>
 (Option.bind (F221 (List.map (fun (v4 : UInt8) => (((UInt8.toNat v4) : Nat) : Int)) y0.1)) fun y1 =>
 (some (y1.1, (y0.2.1, ())))))
noncomputable def C207 : Fun := ⟨[(.io Y187 .z), (.ro (.int .i64))], [((.int .i64), .z)], fun z => F207 z.1 z.2.1⟩
noncomputable def E207 : Env := ⟨10, tyTab tys, oneTab ones, fnTab [(206, C206), (221, C221)], false, [], [(99999, [4], [4])], none, [], []⟩
noncomputable def L207 : List (LoopS (Int × D187 × Unit)) := []
theorem C207_ok : IoOk Tryz.prog 207 C207 := tI E207 L207 [] Tryz.func207 ty_ok (.consIo C206_ok (.cons C221_ok .nil)) (fun p => .nil)
noncomputable def F208 (a0 : D187) : Option (D72 × D187 × Unit) :=
 (Option.bind (F207 a0 (1 : Int)) fun y0 =>
 (let j11 : D187 × D72 × D72 × Unit → Option (D72 × D187 × Unit) := fun (y12 : D187 × D72 × D72 × Unit) =>
 (some (y12.2.2.1, (y12.1, ())))
 (cond (y0.1 == (1 : Int))
 (Option.bind (F207 y0.2.1 (1 : Int)) fun y2 =>
 (j11 (y2.2.1, ((0 : Int), ((0 : Int), ([], ()))), (y0.1, (y2.1, ([], ()))), ())))
 (cond (y0.1 == (2 : Int))
 (Option.bind (F207 y0.2.1 (8 : Int)) fun y3 =>
 (j11 (y3.2.1, ((0 : Int), ((0 : Int), ([], ()))), (y0.1, ((IntKind.wrap IntKind.i64 (y3.1 - (4611686018427387904 : Int))), ([], ()))), ())))
 (cond (y0.1 == (3 : Int))
 (cond (y0.1 == (3 : Int))
 (Option.bind (F207 y0.2.1 (2 : Int)) fun y5 =>
 (Option.bind (F206 y5.2.1 y5.1) fun y6 =>
 (j11 (y6.2.1, ((0 : Int), ((0 : Int), ([], ()))), (y0.1, ((0 : Int), (y6.1, ()))), ()))))
 (j11 (y0.2.1, ((0 : Int), ((0 : Int), ([], ()))), (y0.1, ((0 : Int), ([], ()))), ())))
 (cond (y0.1 == (4 : Int))
 (cond (y0.1 == (4 : Int))
 (Option.bind (F207 y0.2.1 (2 : Int)) fun y7 =>
 (Option.bind (F206 y7.2.1 y7.1) fun y8 =>
 (j11 (y8.2.1, ((0 : Int), ((0 : Int), ([], ()))), (y0.1, ((0 : Int), (y8.1, ()))), ()))))
 (j11 (y0.2.1, ((0 : Int), ((0 : Int), ([], ()))), (y0.1, ((0 : Int), ([], ()))), ())))
 (cond (y0.1 == (5 : Int))
 (Option.bind (F207 y0.2.1 (2 : Int)) fun y9 =>
 (Option.bind (F206 y9.2.1 y9.1) fun y10 =>
 (j11 (y10.2.1, ((0 : Int), ((0 : Int), ([], ()))), (y0.1, ((0 : Int), (y10.1, ()))), ()))))
 (j11 (y0.2.1, ((0 : Int), ((0 : Int), ([], ()))), (y0.1, ((0 : Int), ([], ()))), ())))))))))
noncomputable def C208 : Fun := ⟨[(.io Y187 .z)], [(Y72, .z)], fun z => F208 z.1⟩
noncomputable def E208 : Env := ⟨30, tyTab tys, oneTab ones, fnTab [(206, C206), (207, C207)], false, [], [(11, [2, 3], [4]), (100000, [2, 3], [4]), (99999, [2], [4])], none, [], []⟩
noncomputable def L208 : List (LoopS (D72 × D187 × Unit)) := []
theorem C208_ok : IoOk Tryz.prog 208 C208 := tI E208 L208 [] Tryz.func208 ty_ok (.consIo C206_ok (.consIo C207_ok .nil)) (fun p => .nil)
end Go.V
