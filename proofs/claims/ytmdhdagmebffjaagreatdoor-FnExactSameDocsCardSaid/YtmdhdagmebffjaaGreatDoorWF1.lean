/- What functions of the program compute, printed by a program of ours. No condition. -/
import Derived.Test.YtmdhdagmebffjaaGreatDoorWF0
namespace Go.V
open Go.Proofs
set_option maxRecDepth 100000
set_option linter.unusedVariables false
abbrev G173 : Type := (D72) → (Int) → Option (Bool × Unit)
noncomputable def H173 (g : G173) : Fun := ⟨[(.ro Y72), (.ro (.int .i64))], [(.bool, .z)], fun z => g z.1 z.2.1⟩
noncomputable def B173_R15 (g : G173) (e1_0 : Unit → Option (Bool × Unit)) (er_1 : Bool × Unit → Option (Bool × Unit)) (rec : Int × List (D72) × Int × Unit → Option (Bool × Unit)) (x7 : Int × List (D72) × Int × Unit) : Option (Bool × Unit) :=
 (cond (decide (x7.2.2.1 < (((List.length x7.2.1) : Nat) : Int)))
 (gd (decide ((0 : Int) ≤ x7.2.2.1))
 (Option.bind x7.2.1[(Int.toNat x7.2.2.1)]? fun y10 =>
 (Option.bind (g y10 (IntKind.wrap IntKind.i64 (x7.1 - (1 : Int)))) fun y11 =>
 (cond (!y11.1)
 (er_1 (false, ()))
 (rec (x7.1, x7.2.1, (IntKind.wrap IntKind.i64 (x7.2.2.1 + (1 : Int))), ()))))))
 (e1_0 (())))
noncomputable def B173_R25 (g : G173) (e3_0 : Unit → Option (Bool × Unit)) (er_1 : Bool × Unit → Option (Bool × Unit)) (rec : Int × List (D244) × Int × Unit → Option (Bool × Unit)) (x18 : Int × List (D244) × Int × Unit) : Option (Bool × Unit) :=
 (cond (decide (x18.2.2.1 < (((List.length x18.2.1) : Nat) : Int)))
 (let j29 : Int × List (D244) × Int × Unit → Option (Bool × Unit) := fun (y30 : Int × List (D244) × Int × Unit) =>
 (rec (y30.1, y30.2.1, (IntKind.wrap IntKind.i64 (y30.2.2.1 + (1 : Int))), ()))
 (gd (decide ((0 : Int) ≤ x18.2.2.1))
 (Option.bind x18.2.1[(Int.toNat x18.2.2.1)]? fun y21 =>
 (Option.bind (F81 y21.1) fun y22 =>
 (cond (!y22.1)
 (er_1 (false, ()))
 (cond (decide (x18.2.2.1 > (0 : Int)))
 (gd (decide ((0 : Int) ≤ (IntKind.wrap IntKind.i64 (x18.2.2.1 - (1 : Int)))))
 (Option.bind x18.2.1[(Int.toNat (IntKind.wrap IntKind.i64 (x18.2.2.1 - (1 : Int))))]? fun y23 =>
 (gd (decide ((0 : Int) ≤ x18.2.2.1))
 (Option.bind x18.2.1[(Int.toNat x18.2.2.1)]? fun y24 =>
 (cond (!(Op.bytesLess y23.1 y24.1))
 (er_1 (false, ()))
 (gd (decide ((0 : Int) ≤ x18.2.2.1))
 (Option.bind x18.2.1[(Int.toNat x18.2.2.1)]? fun y25 =>
 (Option.bind (g y25.2.1 (IntKind.wrap IntKind.i64 (x18.1 - (1 : Int)))) fun y26 =>
 (cond (!y26.1)
 (er_1 (false, ()))
 (j29 (x18.1, x18.2.1, x18.2.2.1, ())))))))))))
 (gd (decide ((0 : Int) ≤ x18.2.2.1))
 (Option.bind x18.2.1[(Int.toNat x18.2.2.1)]? fun y27 =>
 (Option.bind (g y27.2.1 (IntKind.wrap IntKind.i64 (x18.1 - (1 : Int)))) fun y28 =>
 (cond (!y28.1)
 (er_1 (false, ()))
 (j29 (x18.1, x18.2.1, x18.2.2.1, ()))))))))))))
 (e3_0 (())))
noncomputable def B173 (g : G173) (a0 : D72) (a1 : Int) : Option (Bool × Unit) :=
 (cond (a0.1 == (0 : Int))
 (cond (a0.2.1 == (0 : Int))
 (some ((a0.2.2.1 == []), ()))
 (some (false, ())))
 (cond (a0.1 == (1 : Int))
 (Option.bind (F25 a0.2.1 (0 : Int) (1 : Int)) fun y1 =>
 (cond y1.1
 (some ((a0.2.2.1 == []), ()))
 (some (false, ()))))
 (cond (a0.1 == (2 : Int))
 (Option.bind (F25 a0.2.1 (-(1000000000000 : Int)) (1000000000000 : Int)) fun y2 =>
 (cond y2.1
 (some ((a0.2.2.1 == []), ()))
 (some (false, ()))))
 (cond (a0.1 == (3 : Int))
 (cond (a0.2.1 == (0 : Int))
 (some ((decide ((((List.length a0.2.2.1) : Nat) : Int) ≤ (300 : Int))), ()))
 (some (false, ())))
 (cond (a0.1 == (4 : Int))
 (Option.bind (F189 a0.2.2.1) fun y3 =>
 (cond (a0.2.1 != (0 : Int))
 (some (false, ()))
 (cond (!y3.2.1)
 (some (false, ()))
 (cond (decide ((((List.length a0.2.2.1) : Nat) : Int) > (300 : Int)))
 (some (false, ()))
 (cond (a1 == (0 : Int))
 (some (false, ()))
 (iter (B173_R15 g
 (fun y12 =>
 (some (true, ())))
 (fun y13 =>
 (some (y13.1, ())))) fuel (a1, y3.1, (0 : Int), ())))))))
 (cond (a0.1 == (5 : Int))
 (Option.bind (F174 a0.2.2.1) fun y14 =>
 (cond (a0.2.1 != (0 : Int))
 (some (false, ()))
 (cond (!y14.2.1)
 (some (false, ()))
 (cond (decide ((((List.length a0.2.2.1) : Nat) : Int) > (300 : Int)))
 (some (false, ()))
 (cond (a1 == (0 : Int))
 (some (false, ()))
 (iter (B173_R25 g
 (fun y31 =>
 (some (true, ())))
 (fun y32 =>
 (some (y32.1, ())))) fuel (a1, y14.1, (0 : Int), ())))))))
 (some (false, ()))))))))
noncomputable def K173 (g : G173) : Fun := ⟨[(.ro Y72), (.ro (.int .i64))], [(.bool, .z)], fun z => B173 g z.1 z.2.1⟩
noncomputable def E173 (g : G173) : Env := ⟨160, tyTab tys, oneTab ones, fnTab [(25, C25), (81, C81), (173, (H173 g)), (174, C174), (189, C189)], false, [], [(14, [1, 5], []), (15, [1, 5, 7], []), (16, [1, 5, 7], []), (17, [1, 5, 7], []), (19, [], []), (24, [1, 8], []), (25, [1, 8, 10], []), (26, [1, 8, 10], []), (27, [1, 8, 10], []), (29, [], []), (30, [], []), (100000, [], []), (100001, [], []), (100002, [1, 5, 7], []), (100003, [], []), (100004, [1, 8, 10], []), (99999, [4], [])], none, [], []⟩
noncomputable def L173 (g : G173) : List (LoopS (Bool × Unit)) := [⟨15, ⟨[(1, (.pv (.int .i64))), (5, (.pv (.slice Y72))), (7, (.pv (.int .i64)))], []⟩, fun κ => B173_R15 g (fun y => κ.exit 1 (SSh.mk' ⟨[], []⟩ y)) (fun y => κ.ret (SSh.mk' ⟨[(4, (.pv .bool))], []⟩ y))⟩,
  ⟨25, ⟨[(1, (.pv (.int .i64))), (8, (.pv (.slice Y244))), (10, (.pv (.int .i64)))], []⟩, fun κ => B173_R25 g (fun y => κ.exit 3 (SSh.mk' ⟨[], []⟩ y)) (fun y => κ.ret (SSh.mk' ⟨[(4, (.pv .bool))], []⟩ y))⟩]
theorem L173_25 (g : G173) : RoundEq (E173 g) (L173 g) ((L173 g)[1]'(Nat.le_of_ble_eq_true rfl)) (nthLoop (codeOf Tryz.f173) 1) := fun κ N x => by kernel_rfl
theorem L173_15 (g : G173) : RoundEq (E173 g) (L173 g) ((L173 g)[0]'(Nat.le_of_ble_eq_true rfl)) (nthLoop (codeOf Tryz.f173) 0) := fun κ N x => by kernel_rfl
theorem K173_ok (g : G173) (hg : QuietOk Tryz.prog 173 (H173 g)) : QuietOk Tryz.prog 173 (K173 g) := tQ (E173 g) (L173 g) [nthLoop (codeOf Tryz.f173) 0, nthLoop (codeOf Tryz.f173) 1] Tryz.func173 ty_ok (.cons C25_ok (.cons C81_ok (.cons hg (.cons C174_ok (.cons C189_ok .nil))))) (.cons ((L173 g)[0]'(Nat.le_of_ble_eq_true rfl)) (by kernel_rfl) (L173_15 g) (.cons ((L173 g)[1]'(Nat.le_of_ble_eq_true rfl)) (by kernel_rfl) (L173_25 g) .nil))
noncomputable def S173 : Nat → G173
  | 0 => fun _ _ => none
  | k + 1 => B173 (S173 k)
noncomputable def F173 : G173 := S173 fuel
noncomputable def C173 : Fun := H173 F173
theorem C173_all : ∀ k, QuietOk Tryz.prog 173 (H173 (S173 k))
  | 0 => QuietOk.none Tryz.func173 (by rfl) (by decide) fun _ => rfl
  | k + 1 => K173_ok (S173 k) (C173_all k)
theorem C173_ok : QuietOk Tryz.prog 173 C173 := C173_all fuel
noncomputable def F152 (a0 : D72) : Option (Bool × Unit) :=
 (cond (decide ((((List.length a0.2.2.1) : Nat) : Int) ≤ (65536 : Int)))
 (Option.bind (F173 a0 (5 : Int)) fun y0 =>
 (some (y0.1, ())))
 (some (false, ())))
noncomputable def C152 : Fun := ⟨[(.ro Y72)], [(.bool, .z)], fun z => F152 z.1⟩
noncomputable def E152 : Env := ⟨11, tyTab tys, oneTab ones, fnTab [(173, C173)], false, [], [(99999, [2], [])], none, [], []⟩
noncomputable def L152 : List (LoopS (Bool × Unit)) := []
theorem C152_ok : QuietOk Tryz.prog 152 C152 := tQ E152 L152 [] Tryz.func152 ty_ok (.cons C173_ok .nil) .nil
noncomputable def F119 (a0 : D72) : Option (Bool × Unit) :=
 (Option.bind (F152 a0) fun y0 =>
 (cond y0.1
 (some ((a0.1 == (5 : Int)), ()))
 (some (false, ()))))
noncomputable def C119 : Fun := ⟨[(.ro Y72)], [(.bool, .z)], fun z => F119 z.1⟩
noncomputable def E119 : Env := ⟨10, tyTab tys, oneTab ones, fnTab [(152, C152)], false, [], [(99999, [2], [])], none, [], []⟩
noncomputable def L119 : List (LoopS (Bool × Unit)) := []
theorem C119_ok : QuietOk Tryz.prog 119 C119 := tQ E119 L119 [] Tryz.func119 ty_ok (.cons C152_ok .nil) .nil
noncomputable def F153_R3 (e0_0 : D72 × Unit → Option (D72 × Bool × Unit)) (er_1 : Bool × D72 × Unit → Option (D72 × Bool × Unit)) (rec : List UInt8 × List (D244) × Int × D72 × Unit → Option (D72 × Bool × Unit)) (x3 : List UInt8 × List (D244) × Int × D72 × Unit) : Option (D72 × Bool × Unit) :=
 (cond (decide (x3.2.2.1 < (((List.length x3.2.1) : Nat) : Int)))
 (gd (decide ((0 : Int) ≤ x3.2.2.1))
 (Option.bind x3.2.1[(Int.toNat x3.2.2.1)]? fun y6 =>
 (cond (y6.1 == x3.1)
 (gd (decide ((0 : Int) ≤ x3.2.2.1))
 (Option.bind x3.2.1[(Int.toNat x3.2.2.1)]? fun y7 =>
 (er_1 (true, y7.2.1, ()))))
 (rec (x3.1, x3.2.1, (IntKind.wrap IntKind.i64 (x3.2.2.1 + (1 : Int))), x3.2.2.2.1, ())))))
 (e0_0 (x3.2.2.2.1, ())))
noncomputable def F153 (a0 : D72) (a1 : List UInt8) : Option (D72 × Bool × Unit) :=
 (Option.bind (F174 a0.2.2.1) fun y0 =>
 (iter (F153_R3
 (fun y8 =>
 (some (((0 : Int), ((0 : Int), ([], ()))), (false, ()))))
 (fun y9 =>
 (some (y9.2.1, (y9.1, ()))))) fuel (a1, y0.1, (0 : Int), ((0 : Int), ((0 : Int), ([], ()))), ())))
noncomputable def C153 : Fun := ⟨[(.ro Y72), (.ro .str)], [(Y72, .z), (.bool, .z)], fun z => F153 z.1 z.2.1⟩
noncomputable def E153 : Env := ⟨34, tyTab tys, oneTab ones, fnTab [(174, C174)], false, [], [(3, [1, 4, 6, 8], []), (4, [1, 4, 6, 8], []), (5, [1, 4, 6, 8], []), (7, [4], []), (100000, [4], []), (100001, [1, 4, 6, 8], []), (99999, [4, 5], [])], none, [], []⟩
noncomputable def L153 : List (LoopS (D72 × Bool × Unit)) := [⟨3, ⟨[(1, (.pv .str)), (4, (.ptr 32 [])), (6, (.pv (.slice Y244))), (8, (.pv (.int .i64)))], [(32, (.data true Y72 .z))]⟩, fun κ => F153_R3 (fun y => κ.exit 0 (SSh.mk' ⟨[(4, (.ptr 32 []))], [(32, (.data true Y72 .z))]⟩ y)) (fun y => κ.ret (SSh.mk' ⟨[(4, (.ptr 32 [])), (5, (.pv .bool))], [(32, (.data true Y72 .z))]⟩ y))⟩]
theorem L153_3 : RoundEq E153 L153 L153[0] (nthLoop (codeOf Tryz.f153) 0) := fun κ N x => by kernel_rfl
theorem C153_ok : QuietOk Tryz.prog 153 C153 := tQ E153 L153 [nthLoop (codeOf Tryz.f153) 0] Tryz.func153 ty_ok (.cons C174_ok .nil) (.cons L153[0] (by kernel_rfl) L153_3 .nil)
noncomputable def F120 (a0 : D72) : Option (Int × Unit) :=
 (Option.bind (F153 a0 [(105 : UInt8), (100 : UInt8)]) fun y0 =>
 (cond (!y0.2.1)
 (some ((-(1 : Int)), ()))
 (cond (y0.1.1 != (2 : Int))
 (some ((-(1 : Int)), ()))
 (Option.bind (F25 y0.1.2.1 (0 : Int) (99 : Int)) fun y2 =>
 (cond (!y2.1)
 (some ((-(1 : Int)), ()))
 (some (y0.1.2.1, ())))))))
noncomputable def C120 : Fun := ⟨[(.ro Y72)], [((.int .i64), .z)], fun z => F120 z.1⟩
noncomputable def E120 : Env := ⟨25, tyTab tys, oneTab ones, fnTab [(25, C25), (153, C153)], false, [], [(4, [3], []), (99999, [2], [])], none, [], []⟩
noncomputable def L120 : List (LoopS (Int × Unit)) := []
theorem C120_ok : QuietOk Tryz.prog 120 C120 := tQ E120 L120 [] Tryz.func120 ty_ok (.cons C25_ok (.cons C153_ok .nil)) .nil
noncomputable def F83 (a0 : Int) (a1 : Bool) (a2 : D72) : Option (Bool × Unit) :=
 (cond a1
 (some (((decide (a2.1 = (0 : Int))) && ((decide (a2.2.1 = (0 : Int))) && ((a2.2.2.1 == []) && true))), ()))
 (Option.bind (F119 a2) fun y1 =>
 (cond y1.1
 (Option.bind (F120 a2) fun y2 =>
 (some ((y2.1 == a0), ())))
 (some (false, ())))))
noncomputable def C83 : Fun := ⟨[(.ro (.int .i64)), (.ro .bool), (.ro Y72)], [(.bool, .z)], fun z => F83 z.1 z.2.1 z.2.2.1⟩
noncomputable def E83 : Env := ⟨19, tyTab tys, oneTab ones, fnTab [(119, C119), (120, C120)], false, [], [(3, [0, 5], []), (99999, [6], [])], none, [], []⟩
noncomputable def L83 : List (LoopS (Bool × Unit)) := []
theorem C83_ok : QuietOk Tryz.prog 83 C83 := tQ E83 L83 [] Tryz.func83 ty_ok (.cons C119_ok (.cons C120_ok .nil)) .nil
noncomputable def F52_R9 (e2_0 : Int × D51 × Unit → Option (Bool × Unit)) (er_1 : Bool × Unit → Option (Bool × Unit)) (rec : Int × Int × D51 × Unit → Option (Bool × Unit)) (x11 : Int × Int × D51 × Unit) : Option (Bool × Unit) :=
 (cond (decide (x11.2.1 < x11.1))
 (gd (decide ((0 : Int) ≤ x11.2.1))
 (Option.bind x11.2.2.1.2.2.1[(Int.toNat x11.2.1)]? fun y14 =>
 (gd (decide ((0 : Int) ≤ x11.1))
 (Option.bind x11.2.2.1.2.2.1[(Int.toNat x11.1)]? fun y15 =>
 (cond (y14.1 == y15.1)
 (er_1 (false, ()))
 (rec (x11.1, (IntKind.wrap IntKind.i64 (x11.2.1 + (1 : Int))), x11.2.2.1, ())))))))
 (e2_0 (x11.1, x11.2.2.1, ())))
noncomputable def F52_R4 (e0_0 : D51 × Unit → Option (Bool × Unit)) (er_1 : Bool × Unit → Option (Bool × Unit)) (rec : Int × D51 × Unit → Option (Bool × Unit)) (x4 : Int × D51 × Unit) : Option (Bool × Unit) :=
 (cond (decide (x4.1 < (((List.length x4.2.1.2.2.1) : Nat) : Int)))
 (gd (decide ((0 : Int) ≤ x4.1))
 (Option.bind x4.2.1.2.2.1[(Int.toNat x4.1)]? fun y8 =>
 (Option.bind (F82 y8) fun y9 =>
 (cond (!y9.1)
 (er_1 (false, ()))
 (iter (F52_R9
 (fun y16 =>
 (rec ((IntKind.wrap IntKind.i64 (y16.1 + (1 : Int))), y16.2.1, ())))
 (fun y17 =>
 (er_1 (y17.1, ())))) fuel (x4.1, (0 : Int), x4.2.1, ()))))))
 (e0_0 (x4.2.1, ())))
noncomputable def F52_R20 (e6_0 : Int × D51 × Unit → Option (Bool × Unit)) (er_1 : Bool × Unit → Option (Bool × Unit)) (rec : Int × Int × D51 × D70 × Unit → Option (Bool × Unit)) (x34 : Int × Int × D51 × D70 × Unit) : Option (Bool × Unit) :=
 (cond (decide (x34.2.1 < (((List.length x34.2.2.2.1.2.1) : Nat) : Int)))
 (let j42 : Int × Int × D51 × D70 × Unit → Option (Bool × Unit) := fun (y43 : Int × Int × D51 × D70 × Unit) =>
 (rec (y43.1, (IntKind.wrap IntKind.i64 (y43.2.1 + (1 : Int))), y43.2.2.1, y43.2.2.2.1, ()))
 (gd (decide ((0 : Int) ≤ x34.2.1))
 (Option.bind x34.2.2.2.1.2.1[(Int.toNat x34.2.1)]? fun y37 =>
 (Option.bind (F25 y37.1 (1 : Int) (10000 : Int)) fun y38 =>
 (cond (!y38.1)
 (er_1 (false, ()))
 (cond (decide (x34.2.1 > (0 : Int)))
 (gd (decide ((0 : Int) ≤ (IntKind.wrap IntKind.i64 (x34.2.1 - (1 : Int)))))
 (Option.bind x34.2.2.2.1.2.1[(Int.toNat (IntKind.wrap IntKind.i64 (x34.2.1 - (1 : Int))))]? fun y39 =>
 (cond (decide (y39.1 ≥ y37.1))
 (er_1 (false, ()))
 (Option.bind (F83 x34.2.2.2.1.1 y37.2.1 y37.2.2.1) fun y40 =>
 (cond (!y40.1)
 (er_1 (false, ()))
 (j42 (x34.1, x34.2.1, x34.2.2.1, x34.2.2.2.1, ())))))))
 (Option.bind (F83 x34.2.2.2.1.1 y37.2.1 y37.2.2.1) fun y41 =>
 (cond (!y41.1)
 (er_1 (false, ()))
 (j42 (x34.1, x34.2.1, x34.2.2.1, x34.2.2.2.1, ()))))))))))
 (e6_0 (x34.1, x34.2.2.1, ())))
noncomputable def F52_R14 (e4_0 : Unit → Option (Bool × Unit)) (er_1 : Bool × Unit → Option (Bool × Unit)) (rec : Int × D51 × Unit → Option (Bool × Unit)) (x22 : Int × D51 × Unit) : Option (Bool × Unit) :=
 (cond (decide (x22.1 < (((List.length x22.2.1.2.1) : Nat) : Int)))
 (gd (decide ((0 : Int) ≤ x22.1))
 (Option.bind x22.2.1.2.1[(Int.toNat x22.1)]? fun y25 =>
 (let j31 : Int × D51 × D70 × Unit → Option (Bool × Unit) := fun (y32 : Int × D51 × D70 × Unit) =>
 (iter (F52_R20
 (fun y44 =>
 (rec ((IntKind.wrap IntKind.i64 (y44.1 + (1 : Int))), y44.2.1, ())))
 (fun y45 =>
 (er_1 (y45.1, ())))) fuel (y32.1, (0 : Int), y32.2.1, y32.2.2.1, ()))
 (Option.bind (F25 y25.1 (0 : Int) (19 : Int)) fun y27 =>
 (cond (!y27.1)
 (er_1 (false, ()))
 (cond (decide (x22.1 > (0 : Int)))
 (gd (decide ((0 : Int) ≤ (IntKind.wrap IntKind.i64 (x22.1 - (1 : Int)))))
 (Option.bind x22.2.1.2.1[(Int.toNat (IntKind.wrap IntKind.i64 (x22.1 - (1 : Int))))]? fun y28 =>
 (cond (decide (y28.1 ≥ y25.1))
 (er_1 (false, ()))
 (Option.bind (F25 (((List.length y25.2.1) : Nat) : Int) (1 : Int) (12 : Int)) fun y29 =>
 (cond (!y29.1)
 (er_1 (false, ()))
 (j31 (x22.1, x22.2.1, y25, ())))))))
 (Option.bind (F25 (((List.length y25.2.1) : Nat) : Int) (1 : Int) (12 : Int)) fun y30 =>
 (cond (!y30.1)
 (er_1 (false, ()))
 (j31 (x22.1, x22.2.1, y25, ()))))))))))
 (e4_0 (())))
noncomputable def F52 (a0 : D51) : Option (Bool × Unit) :=
 (Option.bind (F81 a0.1) fun y1 =>
 (cond (!y1.1)
 (some (false, ()))
 (cond (decide ((((List.length a0.2.1) : Nat) : Int) > (20 : Int)))
 (some (false, ()))
 (cond (decide ((((List.length a0.2.2.1) : Nat) : Int) > (3 : Int)))
 (some (false, ()))
 (iter (F52_R4
 (fun y18 =>
 (iter (F52_R14
 (fun y46 =>
 (some (true, ())))
 (fun y47 =>
 (some (y47.1, ())))) fuel ((0 : Int), y18.1, ())))
 (fun y19 =>
 (some (y19.1, ())))) fuel ((0 : Int), a0, ()))))))
noncomputable def C52 : Fun := ⟨[(.ro Y51)], [(.bool, .z)], fun z => F52 z.1⟩
noncomputable def E52 : Env := ⟨138, tyTab tys, oneTab ones, fnTab [(25, C25), (81, C81), (82, C82), (83, C83)], false, [], [(3, [1], []), (4, [1, 3], []), (5, [1, 3], []), (6, [1, 3], []), (8, [1, 3], []), (9, [1, 3, 4], []), (10, [1, 3, 4], []), (11, [1, 3, 4], []), (13, [1], []), (14, [1, 5], []), (15, [1, 5], []), (16, [1, 5], []), (19, [1, 5, 6], []), (20, [1, 5, 6, 7], []), (21, [1, 5, 6, 7], []), (22, [1, 5, 6, 7], []), (25, [], []), (100000, [1], []), (100001, [1, 3], []), (100002, [1, 3], []), (100003, [1, 3, 4], []), (100004, [], []), (100005, [1, 5], []), (100006, [1, 5], []), (100007, [1, 5, 6, 7], []), (99999, [2], [])], none, [], []⟩
noncomputable def L52 : List (LoopS (Bool × Unit)) := [⟨9, ⟨[(1, (.ptr 8 [])), (3, (.pv (.int .i64))), (4, (.pv (.int .i64)))], [(8, (.data true Y51 .z))]⟩, fun κ => F52_R9 (fun y => κ.exit 2 (SSh.mk' ⟨[(1, (.ptr 8 [])), (3, (.pv (.int .i64)))], [(8, (.data true Y51 .z))]⟩ y)) (fun y => κ.ret (SSh.mk' ⟨[(2, (.pv .bool))], []⟩ y))⟩,
  ⟨4, ⟨[(1, (.ptr 8 [])), (3, (.pv (.int .i64)))], [(8, (.data true Y51 .z))]⟩, fun κ => F52_R4 (fun y => κ.exit 0 (SSh.mk' ⟨[(1, (.ptr 8 []))], [(8, (.data true Y51 .z))]⟩ y)) (fun y => κ.ret (SSh.mk' ⟨[(2, (.pv .bool))], []⟩ y))⟩,
  ⟨20, ⟨[(1, (.ptr 8 [])), (5, (.pv (.int .i64))), (6, (.ptr 48 [])), (7, (.pv (.int .i64)))], [(8, (.data true Y51 .z)), (48, (.data true Y70 .z))]⟩, fun κ => F52_R20 (fun y => κ.exit 6 (SSh.mk' ⟨[(1, (.ptr 8 [])), (5, (.pv (.int .i64)))], [(8, (.data true Y51 .z))]⟩ y)) (fun y => κ.ret (SSh.mk' ⟨[(2, (.pv .bool))], []⟩ y))⟩,
  ⟨14, ⟨[(1, (.ptr 8 [])), (5, (.pv (.int .i64)))], [(8, (.data true Y51 .z))]⟩, fun κ => F52_R14 (fun y => κ.exit 4 (SSh.mk' ⟨[], []⟩ y)) (fun y => κ.ret (SSh.mk' ⟨[(2, (.pv .bool))], []⟩ y))⟩]
theorem L52_20 : RoundEq E52 L52 L52[2] (nthLoop (codeOf Tryz.f52) 3) := fun κ N x => by kernel_rfl
theorem L52_14 : RoundEq E52 L52 L52[3] (nthLoop (codeOf Tryz.f52) 2) := fun κ N x => by kernel_rfl
theorem L52_9 : RoundEq E52 L52 L52[0] (nthLoop (codeOf Tryz.f52) 1) := fun κ N x => by kernel_rfl
theorem L52_4 : RoundEq E52 L52 L52[1] (nthLoop (codeOf Tryz.f52) 0) := fun κ N x => by kernel_rfl
theorem C52_ok : QuietOk Tryz.prog 52 C52 := tQ E52 L52 [nthLoop (codeOf Tryz.f52) 0, nthLoop (codeOf Tryz.f52) 1, nthLoop (codeOf Tryz.f52) 2, nthLoop (codeOf Tryz.f52) 3] Tryz.func52 ty_ok (.cons C25_ok (.cons C81_ok (.cons C82_ok (.cons C83_ok .nil)))) (.cons L52[1] (by kernel_rfl) L52_4 (.cons L52[0] (by kernel_rfl) L52_9 (.cons L52[3] (by kernel_rfl) L52_14 (.cons L52[2] (by kernel_rfl) L52_20 .nil))))
noncomputable def F26_R2 (e0_0 : List (D51) × Unit → Option (Bool × Unit)) (er_1 : Bool × Unit → Option (Bool × Unit)) (rec : List (D51) × Int × Unit → Option (Bool × Unit)) (x2 : List (D51) × Int × Unit) : Option (Bool × Unit) :=
 (cond (decide (x2.2.1 < (((List.length x2.1) : Nat) : Int)))
 (let j9 : List (D51) × Int × Unit → Option (Bool × Unit) := fun (y10 : List (D51) × Int × Unit) =>
 (rec (y10.1, (IntKind.wrap IntKind.i64 (y10.2.1 + (1 : Int))), ()))
 (gd (decide ((0 : Int) ≤ x2.2.1))
 (Option.bind x2.1[(Int.toNat x2.2.1)]? fun y5 =>
 (Option.bind (F52 y5) fun y6 =>
 (cond (!y6.1)
 (er_1 (false, ()))
 (cond (decide (x2.2.1 > (0 : Int)))
 (gd (decide ((0 : Int) ≤ (IntKind.wrap IntKind.i64 (x2.2.1 - (1 : Int)))))
 (Option.bind x2.1[(Int.toNat (IntKind.wrap IntKind.i64 (x2.2.1 - (1 : Int))))]? fun y7 =>
 (gd (decide ((0 : Int) ≤ x2.2.1))
 (Option.bind x2.1[(Int.toNat x2.2.1)]? fun y8 =>
 (cond (!(Op.bytesLess y7.1 y8.1))
 (er_1 (false, ()))
 (j9 (x2.1, x2.2.1, ())))))))
 (j9 (x2.1, x2.2.1, ()))))))))
 (e0_0 (x2.1, ())))
noncomputable def F26 (a0 : List (D51)) : Option (Bool × Unit) :=
 (iter (F26_R2
 (fun y11 =>
 (some ((decide ((((List.length y11.1) : Nat) : Int) ≤ (3 : Int))), ())))
 (fun y12 =>
 (some (y12.1, ())))) fuel (a0, (0 : Int), ()))
noncomputable def C26 : Fun := ⟨[(.ro (.slice Y51))], [(.bool, .z)], fun z => F26 z.1⟩
noncomputable def E26 : Env := ⟨37, tyTab tys, oneTab ones, fnTab [(52, C52)], false, [], [(2, [0, 3], []), (3, [0, 3], []), (4, [0, 3], []), (6, [0], []), (100000, [0], []), (100001, [0, 3], []), (99999, [2], [])], none, [], []⟩
noncomputable def L26 : List (LoopS (Bool × Unit)) := [⟨2, ⟨[(0, (.pv (.slice Y51))), (3, (.pv (.int .i64)))], []⟩, fun κ => F26_R2 (fun y => κ.exit 0 (SSh.mk' ⟨[(0, (.pv (.slice Y51)))], []⟩ y)) (fun y => κ.ret (SSh.mk' ⟨[(2, (.pv .bool))], []⟩ y))⟩]
theorem L26_2 : RoundEq E26 L26 L26[0] (nthLoop (codeOf Tryz.f26) 0) := fun κ N x => by kernel_rfl
theorem C26_ok : QuietOk Tryz.prog 26 C26 := tQ E26 L26 [nthLoop (codeOf Tryz.f26) 0] Tryz.func26 ty_ok (.cons C52_ok .nil) (.cons L26[0] (by kernel_rfl) L26_2 .nil)
noncomputable def F122 (a0 : D195) : Option (Bool × Unit) :=
 (cond (decide ((((List.length a0.2.1) : Nat) : Int) > (65536 : Int)))
 (some (false, ()))
 (Option.bind (F118 a0.2.1) fun y1 =>
 (cond (!y1.1)
 (some (false, ()))
 (Option.bind (F152 a0.2.2.1) fun y2 =>
 (cond (!y2.1)
 (some (false, ()))
 (let j11 : Unit → Option (Bool × Unit) := fun (y12 : Unit) =>
 (some (false, ()))
 (cond (a0.1 == (1 : Int))
 (cond (a0.1 == (1 : Int))
 (some (true, ()))
 (cond (a0.1 == (7 : Int))
 (some ((a0.2.2.1.1 == (4 : Int)), ()))
 (cond (a0.1 == (8 : Int))
 (some ((a0.2.2.1.1 == (1 : Int)), ()))
 (cond (a0.1 == (9 : Int))
 (cond (a0.2.2.1.1 == (2 : Int))
 (Option.bind (F25 a0.2.2.1.2.1 (0 : Int) (5 : Int)) fun y5 =>
 (some (y5.1, ())))
 (some (false, ())))
 (cond (a0.1 == (10 : Int))
 (cond (a0.2.2.1.1 == (2 : Int))
 (some ((decide (a0.2.2.1.2.1 ≥ (0 : Int))), ()))
 (some (false, ())))
 (j11 (())))))))
 (cond (a0.1 == (2 : Int))
 (cond (a0.1 == (2 : Int))
 (some (true, ()))
 (cond (a0.1 == (7 : Int))
 (some ((a0.2.2.1.1 == (4 : Int)), ()))
 (cond (a0.1 == (8 : Int))
 (some ((a0.2.2.1.1 == (1 : Int)), ()))
 (cond (a0.1 == (9 : Int))
 (cond (a0.2.2.1.1 == (2 : Int))
 (Option.bind (F25 a0.2.2.1.2.1 (0 : Int) (5 : Int)) fun y6 =>
 (some (y6.1, ())))
 (some (false, ())))
 (cond (a0.1 == (10 : Int))
 (cond (a0.2.2.1.1 == (2 : Int))
 (some ((decide (a0.2.2.1.2.1 ≥ (0 : Int))), ()))
 (some (false, ())))
 (j11 (())))))))
 (cond (a0.1 == (3 : Int))
 (cond (a0.1 == (3 : Int))
 (some (true, ()))
 (cond (a0.1 == (7 : Int))
 (some ((a0.2.2.1.1 == (4 : Int)), ()))
 (cond (a0.1 == (8 : Int))
 (some ((a0.2.2.1.1 == (1 : Int)), ()))
 (cond (a0.1 == (9 : Int))
 (cond (a0.2.2.1.1 == (2 : Int))
 (Option.bind (F25 a0.2.2.1.2.1 (0 : Int) (5 : Int)) fun y7 =>
 (some (y7.1, ())))
 (some (false, ())))
 (cond (a0.1 == (10 : Int))
 (cond (a0.2.2.1.1 == (2 : Int))
 (some ((decide (a0.2.2.1.2.1 ≥ (0 : Int))), ()))
 (some (false, ())))
 (j11 (())))))))
 (cond (a0.1 == (4 : Int))
 (cond (a0.1 == (4 : Int))
 (some (true, ()))
 (cond (a0.1 == (7 : Int))
 (some ((a0.2.2.1.1 == (4 : Int)), ()))
 (cond (a0.1 == (8 : Int))
 (some ((a0.2.2.1.1 == (1 : Int)), ()))
 (cond (a0.1 == (9 : Int))
 (cond (a0.2.2.1.1 == (2 : Int))
 (Option.bind (F25 a0.2.2.1.2.1 (0 : Int) (5 : Int)) fun y8 =>
 (some (y8.1, ())))
 (some (false, ())))
 (cond (a0.1 == (10 : Int))
 (cond (a0.2.2.1.1 == (2 : Int))
 (some ((decide (a0.2.2.1.2.1 ≥ (0 : Int))), ()))
 (some (false, ())))
 (j11 (())))))))
 (cond (a0.1 == (5 : Int))
 (cond (a0.1 == (5 : Int))
 (some (true, ()))
 (cond (a0.1 == (7 : Int))
 (some ((a0.2.2.1.1 == (4 : Int)), ()))
 (cond (a0.1 == (8 : Int))
 (some ((a0.2.2.1.1 == (1 : Int)), ()))
 (cond (a0.1 == (9 : Int))
 (cond (a0.2.2.1.1 == (2 : Int))
 (Option.bind (F25 a0.2.2.1.2.1 (0 : Int) (5 : Int)) fun y9 =>
 (some (y9.1, ())))
 (some (false, ())))
 (cond (a0.1 == (10 : Int))
 (cond (a0.2.2.1.1 == (2 : Int))
 (some ((decide (a0.2.2.1.2.1 ≥ (0 : Int))), ()))
 (some (false, ())))
 (j11 (())))))))
 (cond (a0.1 == (6 : Int))
 (some (true, ()))
 (cond (a0.1 == (7 : Int))
 (some ((a0.2.2.1.1 == (4 : Int)), ()))
 (cond (a0.1 == (8 : Int))
 (some ((a0.2.2.1.1 == (1 : Int)), ()))
 (cond (a0.1 == (9 : Int))
 (cond (a0.2.2.1.1 == (2 : Int))
 (Option.bind (F25 a0.2.2.1.2.1 (0 : Int) (5 : Int)) fun y10 =>
 (some (y10.1, ())))
 (some (false, ())))
 (cond (a0.1 == (10 : Int))
 (cond (a0.2.2.1.1 == (2 : Int))
 (some ((decide (a0.2.2.1.2.1 ≥ (0 : Int))), ()))
 (some (false, ())))
 (j11 (()))))))))))))))))))
noncomputable def C122 : Fun := ⟨[(.ro Y195)], [(.bool, .z)], fun z => F122 z.1⟩
noncomputable def E122 : Env := ⟨64, tyTab tys, oneTab ones, fnTab [(25, C25), (118, C118), (152, C152)], false, [], [(3, [1], []), (19, [], []), (100000, [], []), (99999, [2], [])], none, [], []⟩
noncomputable def L122 : List (LoopS (Bool × Unit)) := []
theorem C122_ok : QuietOk Tryz.prog 122 C122 := tQ E122 L122 [] Tryz.func122 ty_ok (.cons C25_ok (.cons C118_ok (.cons C152_ok .nil))) .nil
noncomputable def F85_R9 (e2_0 : Int × D109 × Unit → Option (Bool × Unit)) (er_1 : Bool × Unit → Option (Bool × Unit)) (rec : Int × Int × D109 × Unit → Option (Bool × Unit)) (x10 : Int × Int × D109 × Unit) : Option (Bool × Unit) :=
 (gd (decide ((0 : Int) ≤ x10.1))
 (Option.bind x10.2.2.1.1[(Int.toNat x10.1)]? fun y12 =>
 (cond (decide (x10.2.1 < (((List.length y12.1) : Nat) : Int)))
 (gd (decide ((0 : Int) ≤ x10.1))
 (Option.bind x10.2.2.1.1[(Int.toNat x10.1)]? fun y14 =>
 (gd (decide ((0 : Int) ≤ x10.2.1))
 (Option.bind y14.1[(Int.toNat x10.2.1)]? fun y15 =>
 (Option.bind (F122 y15) fun y16 =>
 (cond (!y16.1)
 (er_1 (false, ()))
 (rec (x10.1, (IntKind.wrap IntKind.i64 (x10.2.1 + (1 : Int))), x10.2.2.1, ()))))))))
 (e2_0 (x10.1, x10.2.2.1, ())))))
noncomputable def F85_R4 (e0_0 : Unit → Option (Bool × Unit)) (er_1 : Bool × Unit → Option (Bool × Unit)) (rec : Int × D109 × Unit → Option (Bool × Unit)) (x4 : Int × D109 × Unit) : Option (Bool × Unit) :=
 (cond (decide (x4.1 < (((List.length x4.2.1.1) : Nat) : Int)))
 (gd (decide ((0 : Int) ≤ x4.1))
 (Option.bind x4.2.1.1[(Int.toNat x4.1)]? fun y8 =>
 (cond (decide ((((List.length y8.1) : Nat) : Int) > (4 : Int)))
 (er_1 (false, ()))
 (iter (F85_R9
 (fun y17 =>
 (rec ((IntKind.wrap IntKind.i64 (y17.1 + (1 : Int))), y17.2.1, ())))
 (fun y18 =>
 (er_1 (y18.1, ())))) fuel (x4.1, (0 : Int), x4.2.1, ())))))
 (e0_0 (())))
noncomputable def F85 (a0 : D109) : Option (Bool × Unit) :=
 (Option.bind (F25 (((List.length a0.1) : Nat) : Int) (1 : Int) (3 : Int)) fun y1 =>
 (cond (!y1.1)
 (some (false, ()))
 (iter (F85_R4
 (fun y19 =>
 (some (true, ())))
 (fun y20 =>
 (some (y20.1, ())))) fuel ((0 : Int), a0, ()))))
noncomputable def C85 : Fun := ⟨[(.ro Y109)], [(.bool, .z)], fun z => F85 z.1⟩
noncomputable def E85 : Env := ⟨47, tyTab tys, oneTab ones, fnTab [(25, C25), (122, C122)], false, [], [(3, [1], []), (4, [1, 3], []), (5, [1, 3], []), (6, [1, 3], []), (8, [1, 3], []), (9, [1, 3, 4], []), (10, [1, 3, 4], []), (11, [1, 3, 4], []), (13, [], []), (100000, [], []), (100001, [1, 3], []), (100002, [1, 3], []), (100003, [1, 3, 4], []), (99999, [2], [])], none, [], []⟩
noncomputable def L85 : List (LoopS (Bool × Unit)) := [⟨9, ⟨[(1, (.ptr 8 [])), (3, (.pv (.int .i64))), (4, (.pv (.int .i64)))], [(8, (.data true Y109 .z))]⟩, fun κ => F85_R9 (fun y => κ.exit 2 (SSh.mk' ⟨[(1, (.ptr 8 [])), (3, (.pv (.int .i64)))], [(8, (.data true Y109 .z))]⟩ y)) (fun y => κ.ret (SSh.mk' ⟨[(2, (.pv .bool))], []⟩ y))⟩,
  ⟨4, ⟨[(1, (.ptr 8 [])), (3, (.pv (.int .i64)))], [(8, (.data true Y109 .z))]⟩, fun κ => F85_R4 (fun y => κ.exit 0 (SSh.mk' ⟨[], []⟩ y)) (fun y => κ.ret (SSh.mk' ⟨[(2, (.pv .bool))], []⟩ y))⟩]
theorem L85_9 : RoundEq E85 L85 L85[0] (nthLoop (codeOf Tryz.f85) 1) := fun κ N x => by kernel_rfl
theorem L85_4 : RoundEq E85 L85 L85[1] (nthLoop (codeOf Tryz.f85) 0) := fun κ N x => by kernel_rfl
theorem C85_ok : QuietOk Tryz.prog 85 C85 := tQ E85 L85 [nthLoop (codeOf Tryz.f85) 0, nthLoop (codeOf Tryz.f85) 1] Tryz.func85 ty_ok (.cons C25_ok (.cons C122_ok .nil)) (.cons L85[1] (by kernel_rfl) L85_4 (.cons L85[0] (by kernel_rfl) L85_9 .nil))
noncomputable def F54 (a0 : D111) : Option (Bool × Unit) :=
 (Option.bind (F81 a0.1) fun y0 =>
 (cond y0.1
 (Option.bind (F85 a0.2.1) fun y1 =>
 (some (y1.1, ())))
 (some (false, ()))))
noncomputable def C54 : Fun := ⟨[(.ro Y111)], [(.bool, .z)], fun z => F54 z.1⟩
noncomputable def E54 : Env := ⟨11, tyTab tys, oneTab ones, fnTab [(81, C81), (85, C85)], false, [], [(99999, [2], [])], none, [], []⟩
noncomputable def L54 : List (LoopS (Bool × Unit)) := []
theorem C54_ok : QuietOk Tryz.prog 54 C54 := tQ E54 L54 [] Tryz.func54 ty_ok (.cons C81_ok (.cons C85_ok .nil)) .nil
noncomputable def F55 (a0 : D82) : Option (Bool × Unit) :=
 (Option.bind (F81 a0.1) fun y0 =>
 (cond y0.1
 (Option.bind (F25 a0.2.1 (0 : Int) (19 : Int)) fun y1 =>
 (cond y1.1
 (Option.bind (F83 a0.2.1 a0.2.2.1 a0.2.2.2.1) fun y2 =>
 (some (y2.1, ())))
 (some (false, ()))))
 (some (false, ()))))
noncomputable def C55 : Fun := ⟨[(.ro Y82)], [(.bool, .z)], fun z => F55 z.1⟩
noncomputable def E55 : Env := ⟨20, tyTab tys, oneTab ones, fnTab [(25, C25), (81, C81), (83, C83)], false, [], [(99999, [2], [])], none, [], []⟩
noncomputable def L55 : List (LoopS (Bool × Unit)) := []
theorem C55_ok : QuietOk Tryz.prog 55 C55 := tQ E55 L55 [] Tryz.func55 ty_ok (.cons C25_ok (.cons C81_ok (.cons C83_ok .nil))) .nil
noncomputable def F121 (a0 : D150) : Option (Bool × Unit) :=
 (Option.bind (F55 a0.1) fun y0 =>
 (cond y0.1
 (Option.bind (F83 a0.1.2.1 (!a0.2.2.1) a0.2.1) fun y1 =>
 (some (y1.1, ())))
 (some (false, ()))))
noncomputable def C121 : Fun := ⟨[(.ro Y150)], [(.bool, .z)], fun z => F121 z.1⟩
noncomputable def E121 : Env := ⟨17, tyTab tys, oneTab ones, fnTab [(55, C55), (83, C83)], false, [], [(99999, [2], [])], none, [], []⟩
noncomputable def L121 : List (LoopS (Bool × Unit)) := []
theorem C121_ok : QuietOk Tryz.prog 121 C121 := tQ E121 L121 [] Tryz.func121 ty_ok (.cons C55_ok (.cons C83_ok .nil)) .nil
noncomputable def F84_R2 (e0_0 : List (D111) × List (D150) × Unit → Option (Bool × Unit)) (er_1 : Bool × Unit → Option (Bool × Unit)) (rec : List (D111) × List (D150) × Int × Unit → Option (Bool × Unit)) (x2 : List (D111) × List (D150) × Int × Unit) : Option (Bool × Unit) :=
 (cond (decide (x2.2.2.1 < (((List.length x2.1) : Nat) : Int)))
 (gd (decide ((0 : Int) ≤ x2.2.2.1))
 (Option.bind x2.1[(Int.toNat x2.2.2.1)]? fun y5 =>
 (Option.bind (F54 y5) fun y6 =>
 (cond (!y6.1)
 (er_1 (false, ()))
 (rec (x2.1, x2.2.1, (IntKind.wrap IntKind.i64 (x2.2.2.1 + (1 : Int))), ()))))))
 (e0_0 (x2.1, x2.2.1, ())))
noncomputable def F84_R12 (e4_0 : List (D111) × List (D150) × Int × Unit → Option (Bool × Unit)) (er_1 : Bool × Unit → Option (Bool × Unit)) (rec : List (D111) × List (D150) × Int × Int × Unit → Option (Bool × Unit)) (x18 : List (D111) × List (D150) × Int × Int × Unit) : Option (Bool × Unit) :=
 (cond (decide (x18.2.2.2.1 < x18.2.2.1))
 (let j25 : List (D111) × List (D150) × Int × Int × Unit → Option (Bool × Unit) := fun (y26 : List (D111) × List (D150) × Int × Int × Unit) =>
 (rec (y26.1, y26.2.1, y26.2.2.1, (IntKind.wrap IntKind.i64 (y26.2.2.2.1 + (1 : Int))), ()))
 (gd (decide ((0 : Int) ≤ x18.2.2.2.1))
 (Option.bind x18.2.1[(Int.toNat x18.2.2.2.1)]? fun y21 =>
 (gd (decide ((0 : Int) ≤ x18.2.2.1))
 (Option.bind x18.2.1[(Int.toNat x18.2.2.1)]? fun y22 =>
 (cond (y21.1.1 == y22.1.1)
 (gd (decide ((0 : Int) ≤ x18.2.2.2.1))
 (Option.bind x18.2.1[(Int.toNat x18.2.2.2.1)]? fun y23 =>
 (gd (decide ((0 : Int) ≤ x18.2.2.1))
 (Option.bind x18.2.1[(Int.toNat x18.2.2.1)]? fun y24 =>
 (cond (y23.1.2.1 == y24.1.2.1)
 (er_1 (false, ()))
 (j25 (x18.1, x18.2.1, x18.2.2.1, x18.2.2.2.1, ())))))))
 (j25 (x18.1, x18.2.1, x18.2.2.1, x18.2.2.2.1, ()))))))))
 (e4_0 (x18.1, x18.2.1, x18.2.2.1, ())))
noncomputable def F84_R7 (e2_0 : List (D111) × List (D150) × Unit → Option (Bool × Unit)) (er_1 : Bool × Unit → Option (Bool × Unit)) (rec : List (D111) × List (D150) × Int × Unit → Option (Bool × Unit)) (x11 : List (D111) × List (D150) × Int × Unit) : Option (Bool × Unit) :=
 (cond (decide (x11.2.2.1 < (((List.length x11.2.1) : Nat) : Int)))
 (gd (decide ((0 : Int) ≤ x11.2.2.1))
 (Option.bind x11.2.1[(Int.toNat x11.2.2.1)]? fun y15 =>
 (Option.bind (F121 y15) fun y16 =>
 (cond (!y16.1)
 (er_1 (false, ()))
 (iter (F84_R12
 (fun y27 =>
 (rec (y27.1, y27.2.1, (IntKind.wrap IntKind.i64 (y27.2.2.1 + (1 : Int))), ())))
 (fun y28 =>
 (er_1 (y28.1, ())))) fuel (x11.1, x11.2.1, x11.2.2.1, (0 : Int), ()))))))
 (e2_0 (x11.1, x11.2.1, ())))
noncomputable def F84 (a0 : List (D111)) (a1 : List (D150)) : Option (Bool × Unit) :=
 (iter (F84_R2
 (fun y7 =>
 (iter (F84_R7
 (fun y29 =>
 (cond (decide ((((List.length y29.1) : Nat) : Int) ≤ (20 : Int)))
 (some ((decide ((((List.length y29.2.1) : Nat) : Int) ≤ (60 : Int))), ()))
 (some (false, ()))))
 (fun y30 =>
 (some (y30.1, ())))) fuel (y7.1, y7.2.1, (0 : Int), ())))
 (fun y8 =>
 (some (y8.1, ())))) fuel (a0, a1, (0 : Int), ()))
noncomputable def C84 : Fun := ⟨[(.ro (.slice Y111)), (.ro (.slice Y150))], [(.bool, .z)], fun z => F84 z.1 z.2.1⟩
noncomputable def E84 : Env := ⟨73, tyTab tys, oneTab ones, fnTab [(54, C54), (121, C121)], false, [], [(2, [0, 1, 5], []), (3, [0, 1, 5], []), (4, [0, 1, 5], []), (6, [0, 1], []), (7, [0, 1, 6], []), (8, [0, 1, 6], []), (9, [0, 1, 6], []), (11, [0, 1, 6], []), (12, [0, 1, 6, 7], []), (13, [0, 1, 6, 7], []), (14, [0, 1, 6, 7], []), (16, [0, 1], []), (100000, [0, 1], []), (100001, [0, 1, 5], []), (100002, [0, 1], []), (100003, [0, 1, 6], []), (100004, [0, 1, 6], []), (100005, [0, 1, 6, 7], []), (99999, [4], [])], none, [], []⟩
noncomputable def L84 : List (LoopS (Bool × Unit)) := [⟨2, ⟨[(0, (.pv (.slice Y111))), (1, (.pv (.slice Y150))), (5, (.pv (.int .i64)))], []⟩, fun κ => F84_R2 (fun y => κ.exit 0 (SSh.mk' ⟨[(0, (.pv (.slice Y111))), (1, (.pv (.slice Y150)))], []⟩ y)) (fun y => κ.ret (SSh.mk' ⟨[(4, (.pv .bool))], []⟩ y))⟩,
  ⟨12, ⟨[(0, (.pv (.slice Y111))), (1, (.pv (.slice Y150))), (6, (.pv (.int .i64))), (7, (.pv (.int .i64)))], []⟩, fun κ => F84_R12 (fun y => κ.exit 4 (SSh.mk' ⟨[(0, (.pv (.slice Y111))), (1, (.pv (.slice Y150))), (6, (.pv (.int .i64)))], []⟩ y)) (fun y => κ.ret (SSh.mk' ⟨[(4, (.pv .bool))], []⟩ y))⟩,
  ⟨7, ⟨[(0, (.pv (.slice Y111))), (1, (.pv (.slice Y150))), (6, (.pv (.int .i64)))], []⟩, fun κ => F84_R7 (fun y => κ.exit 2 (SSh.mk' ⟨[(0, (.pv (.slice Y111))), (1, (.pv (.slice Y150)))], []⟩ y)) (fun y => κ.ret (SSh.mk' ⟨[(4, (.pv .bool))], []⟩ y))⟩]
theorem L84_12 : RoundEq E84 L84 L84[1] (nthLoop (codeOf Tryz.f84) 2) := fun κ N x => by kernel_rfl
theorem L84_7 : RoundEq E84 L84 L84[2] (nthLoop (codeOf Tryz.f84) 1) := fun κ N x => by kernel_rfl
theorem L84_2 : RoundEq E84 L84 L84[0] (nthLoop (codeOf Tryz.f84) 0) := fun κ N x => by kernel_rfl
theorem C84_ok : QuietOk Tryz.prog 84 C84 := tQ E84 L84 [nthLoop (codeOf Tryz.f84) 0, nthLoop (codeOf Tryz.f84) 1, nthLoop (codeOf Tryz.f84) 2] Tryz.func84 ty_ok (.cons C54_ok (.cons C121_ok .nil)) (.cons L84[0] (by kernel_rfl) L84_2 (.cons L84[2] (by kernel_rfl) L84_7 (.cons L84[1] (by kernel_rfl) L84_12 .nil)))
noncomputable def F53 (a0 : D60) : Option (Bool × Unit) :=
 (Option.bind (F25 a0.1 (0 : Int) (10000 : Int)) fun y0 =>
 (cond y0.1
 (Option.bind (F25 a0.2.1 (IntKind.wrap IntKind.i64 (a0.1 + (1 : Int))) (10000 : Int)) fun y1 =>
 (cond y1.1
 (Option.bind (F84 a0.2.2.1 a0.2.2.2.1) fun y2 =>
 (some (y2.1, ())))
 (some (false, ()))))
 (some (false, ()))))
noncomputable def C53 : Fun := ⟨[(.ro Y60)], [(.bool, .z)], fun z => F53 z.1⟩
noncomputable def E53 : Env := ⟨21, tyTab tys, oneTab ones, fnTab [(25, C25), (84, C84)], false, [], [(99999, [2], [])], none, [], []⟩
noncomputable def L53 : List (LoopS (Bool × Unit)) := []
theorem C53_ok : QuietOk Tryz.prog 53 C53 := tQ E53 L53 [] Tryz.func53 ty_ok (.cons C25_ok (.cons C84_ok .nil)) .nil
noncomputable def F27_R2 (e0_0 : List (D60) × Unit → Option (Bool × Unit)) (er_1 : Bool × Unit → Option (Bool × Unit)) (rec : List (D60) × Int × Unit → Option (Bool × Unit)) (x2 : List (D60) × Int × Unit) : Option (Bool × Unit) :=
 (cond (decide (x2.2.1 < (((List.length x2.1) : Nat) : Int)))
 (let j13 : List (D60) × Int × Unit → Option (Bool × Unit) := fun (y14 : List (D60) × Int × Unit) =>
 (rec (y14.1, (IntKind.wrap IntKind.i64 (y14.2.1 + (1 : Int))), ()))
 (gd (decide ((0 : Int) ≤ x2.2.1))
 (Option.bind x2.1[(Int.toNat x2.2.1)]? fun y5 =>
 (Option.bind (F53 y5) fun y6 =>
 (cond (!y6.1)
 (er_1 (false, ()))
 (cond (decide (x2.2.1 > (0 : Int)))
 (gd (decide ((0 : Int) ≤ (IntKind.wrap IntKind.i64 (x2.2.1 - (1 : Int)))))
 (Option.bind x2.1[(Int.toNat (IntKind.wrap IntKind.i64 (x2.2.1 - (1 : Int))))]? fun y7 =>
 (gd (decide ((0 : Int) ≤ x2.2.1))
 (Option.bind x2.1[(Int.toNat x2.2.1)]? fun y8 =>
 (cond (decide (y7.2.1 ≥ y8.2.1))
 (er_1 (false, ()))
 (gd (decide ((0 : Int) ≤ x2.2.1))
 (Option.bind x2.1[(Int.toNat x2.2.1)]? fun y9 =>
 (cond y9.2.2.2.2.1
 (gd (decide ((0 : Int) ≤ x2.2.1))
 (Option.bind x2.1[(Int.toNat x2.2.1)]? fun y10 =>
 (cond y10.2.2.2.2.2.1
 (er_1 (false, ()))
 (j13 (x2.1, x2.2.1, ())))))
 (j13 (x2.1, x2.2.1, ()))))))))))
 (gd (decide ((0 : Int) ≤ x2.2.1))
 (Option.bind x2.1[(Int.toNat x2.2.1)]? fun y11 =>
 (cond y11.2.2.2.2.1
 (gd (decide ((0 : Int) ≤ x2.2.1))
 (Option.bind x2.1[(Int.toNat x2.2.1)]? fun y12 =>
 (cond y12.2.2.2.2.2.1
 (er_1 (false, ()))
 (j13 (x2.1, x2.2.1, ())))))
 (j13 (x2.1, x2.2.1, ())))))))))))
 (e0_0 (x2.1, ())))
noncomputable def F27 (a0 : List (D60)) : Option (Bool × Unit) :=
 (iter (F27_R2
 (fun y15 =>
 (some ((decide ((((List.length y15.1) : Nat) : Int) ≤ (30 : Int))), ())))
 (fun y16 =>
 (some (y16.1, ())))) fuel (a0, (0 : Int), ()))
noncomputable def C27 : Fun := ⟨[(.ro (.slice Y60))], [(.bool, .z)], fun z => F27 z.1⟩
noncomputable def E27 : Env := ⟨51, tyTab tys, oneTab ones, fnTab [(53, C53)], false, [], [(2, [0, 3], []), (3, [0, 3], []), (4, [0, 3], []), (6, [0], []), (100000, [0], []), (100001, [0, 3], []), (99999, [2], [])], none, [], []⟩
noncomputable def L27 : List (LoopS (Bool × Unit)) := [⟨2, ⟨[(0, (.pv (.slice Y60))), (3, (.pv (.int .i64)))], []⟩, fun κ => F27_R2 (fun y => κ.exit 0 (SSh.mk' ⟨[(0, (.pv (.slice Y60)))], []⟩ y)) (fun y => κ.ret (SSh.mk' ⟨[(2, (.pv .bool))], []⟩ y))⟩]
theorem L27_2 : RoundEq E27 L27 L27[0] (nthLoop (codeOf Tryz.f27) 0) := fun κ N x => by kernel_rfl
theorem C27_ok : QuietOk Tryz.prog 27 C27 := tQ E27 L27 [nthLoop (codeOf Tryz.f27) 0] Tryz.func27 ty_ok (.cons C53_ok .nil) (.cons L27[0] (by kernel_rfl) L27_2 .nil)
noncomputable def F56 (a0 : D82) (a1 : D82) : Option (Bool × Unit) :=
 (cond (Op.bytesLess a0.1 a1.1)
 (some (true, ()))
 (cond (a0.1 == a1.1)
 (some ((decide (a0.2.1 < a1.2.1)), ()))
 (some (false, ()))))
noncomputable def C56 : Fun := ⟨[(.ro Y82), (.ro Y82)], [(.bool, .z)], fun z => F56 z.1 z.2.1⟩
noncomputable def E56 : Env := ⟨24, tyTab tys, oneTab ones, fnTab [], false, [], [(99999, [4], [])], none, [], []⟩
noncomputable def L56 : List (LoopS (Bool × Unit)) := []
theorem C56_ok : QuietOk Tryz.prog 56 C56 := tQ E56 L56 [] Tryz.func56 ty_ok .nil .nil
noncomputable def F28_R4 (e0_0 : D56 × Unit → Option (Bool × Unit)) (er_1 : Bool × Unit → Option (Bool × Unit)) (rec : Int × D56 × Unit → Option (Bool × Unit)) (x5 : Int × D56 × Unit) : Option (Bool × Unit) :=
 (cond (decide (x5.1 < (((List.length x5.2.1.2.2.1) : Nat) : Int)))
 (gd (decide ((0 : Int) ≤ x5.1))
 (Option.bind x5.2.1.2.2.1[(Int.toNat x5.1)]? fun y8 =>
 (Option.bind (F54 y8) fun y9 =>
 (cond (!y9.1)
 (er_1 (false, ()))
 (rec ((IntKind.wrap IntKind.i64 (x5.1 + (1 : Int))), x5.2.1, ()))))))
 (e0_0 (x5.2.1, ())))
noncomputable def F28_R9 (e2_0 : Unit → Option (Bool × Unit)) (er_1 : Bool × Unit → Option (Bool × Unit)) (rec : Int × D56 × Unit → Option (Bool × Unit)) (x14 : Int × D56 × Unit) : Option (Bool × Unit) :=
 (cond (decide (x14.1 < (((List.length x14.2.1.2.2.2.1) : Nat) : Int)))
 (let j22 : Int × D56 × Unit → Option (Bool × Unit) := fun (y23 : Int × D56 × Unit) =>
 (rec ((IntKind.wrap IntKind.i64 (y23.1 + (1 : Int))), y23.2.1, ()))
 (gd (decide ((0 : Int) ≤ x14.1))
 (Option.bind x14.2.1.2.2.2.1[(Int.toNat x14.1)]? fun y17 =>
 (Option.bind (F55 y17) fun y18 =>
 (cond (!y18.1)
 (er_1 (false, ()))
 (cond (decide (x14.1 > (0 : Int)))
 (gd (decide ((0 : Int) ≤ (IntKind.wrap IntKind.i64 (x14.1 - (1 : Int)))))
 (Option.bind x14.2.1.2.2.2.1[(Int.toNat (IntKind.wrap IntKind.i64 (x14.1 - (1 : Int))))]? fun y19 =>
 (gd (decide ((0 : Int) ≤ x14.1))
 (Option.bind x14.2.1.2.2.2.1[(Int.toNat x14.1)]? fun y20 =>
 (Option.bind (F56 y19 y20) fun y21 =>
 (cond (!y21.1)
 (er_1 (false, ()))
 (j22 (x14.1, x14.2.1, ()))))))))
 (j22 (x14.1, x14.2.1, ()))))))))
 (e2_0 (())))
noncomputable def F28 (a0 : D56) : Option (Bool × Unit) :=
 (Option.bind (F25 a0.1 (0 : Int) (3 : Int)) fun y1 =>
 (cond (!y1.1)
 (some (false, ()))
 (Option.bind (F25 a0.2.1 (0 : Int) (10000 : Int)) fun y2 =>
 (cond (!y2.1)
 (some (false, ()))
 (cond (decide ((((List.length a0.2.2.1) : Nat) : Int) > (20 : Int)))
 (some (false, ()))
 (cond (decide ((((List.length a0.2.2.2.1) : Nat) : Int) > (60 : Int)))
 (some (false, ()))
 (iter (F28_R4
 (fun y10 =>
 (iter (F28_R9
 (fun y24 =>
 (some (true, ())))
 (fun y25 =>
 (some (y25.1, ())))) fuel ((0 : Int), y10.1, ())))
 (fun y11 =>
 (some (y11.1, ())))) fuel ((0 : Int), a0, ()))))))))
noncomputable def C28 : Fun := ⟨[(.ro Y56)], [(.bool, .z)], fun z => F28 z.1⟩
noncomputable def E28 : Env := ⟨74, tyTab tys, oneTab ones, fnTab [(25, C25), (54, C54), (55, C55), (56, C56)], false, [], [(3, [1], []), (4, [1, 3], []), (5, [1, 3], []), (6, [1, 3], []), (8, [1], []), (9, [1, 4], []), (10, [1, 4], []), (11, [1, 4], []), (13, [], []), (100000, [1], []), (100001, [1, 3], []), (100002, [], []), (100003, [1, 4], []), (99999, [2], [])], none, [], []⟩
noncomputable def L28 : List (LoopS (Bool × Unit)) := [⟨4, ⟨[(1, (.ptr 8 [])), (3, (.pv (.int .i64)))], [(8, (.data true Y56 .z))]⟩, fun κ => F28_R4 (fun y => κ.exit 0 (SSh.mk' ⟨[(1, (.ptr 8 []))], [(8, (.data true Y56 .z))]⟩ y)) (fun y => κ.ret (SSh.mk' ⟨[(2, (.pv .bool))], []⟩ y))⟩,
  ⟨9, ⟨[(1, (.ptr 8 [])), (4, (.pv (.int .i64)))], [(8, (.data true Y56 .z))]⟩, fun κ => F28_R9 (fun y => κ.exit 2 (SSh.mk' ⟨[], []⟩ y)) (fun y => κ.ret (SSh.mk' ⟨[(2, (.pv .bool))], []⟩ y))⟩]
theorem L28_9 : RoundEq E28 L28 L28[1] (nthLoop (codeOf Tryz.f28) 1) := fun κ N x => by kernel_rfl
theorem L28_4 : RoundEq E28 L28 L28[0] (nthLoop (codeOf Tryz.f28) 0) := fun κ N x => by kernel_rfl
theorem C28_ok : QuietOk Tryz.prog 28 C28 := tQ E28 L28 [nthLoop (codeOf Tryz.f28) 0, nthLoop (codeOf Tryz.f28) 1] Tryz.func28 ty_ok (.cons C25_ok (.cons C54_ok (.cons C55_ok (.cons C56_ok .nil)))) (.cons L28[0] (by kernel_rfl) L28_4 (.cons L28[1] (by kernel_rfl) L28_9 .nil))
noncomputable def F29_R2 (e0_0 : Unit → Option (Int × Unit)) (er_1 : Int × Unit → Option (Int × Unit)) (rec : List (D51) × List UInt8 × Int × Unit → Option (Int × Unit)) (x2 : List (D51) × List UInt8 × Int × Unit) : Option (Int × Unit) :=
 (cond (decide (x2.2.2.1 < (((List.length x2.1) : Nat) : Int)))
 (gd (decide ((0 : Int) ≤ x2.2.2.1))
 (Option.bind x2.1[(Int.toNat x2.2.2.1)]? fun y5 =>
 (cond (y5.1 == x2.2.1)
 (er_1 (x2.2.2.1, ()))
 (rec (x2.1, x2.2.1, (IntKind.wrap IntKind.i64 (x2.2.2.1 + (1 : Int))), ())))))
 (e0_0 (())))
noncomputable def F29 (a0 : List (D51)) (a1 : List UInt8) : Option (Int × Unit) :=
 (iter (F29_R2
 (fun y6 =>
 (some ((-(1 : Int)), ())))
 (fun y7 =>
 (some (y7.1, ())))) fuel (a0, a1, (0 : Int), ()))
noncomputable def C29 : Fun := ⟨[(.ro (.slice Y51)), (.ro .str)], [((.int .i64), .z)], fun z => F29 z.1 z.2.1⟩
noncomputable def E29 : Env := ⟨20, tyTab tys, oneTab ones, fnTab [], false, [], [(2, [0, 1, 5], []), (3, [0, 1, 5], []), (4, [0, 1, 5], []), (6, [], []), (100000, [], []), (100001, [0, 1, 5], []), (99999, [4], [])], none, [], []⟩
noncomputable def L29 : List (LoopS (Int × Unit)) := [⟨2, ⟨[(0, (.pv (.slice Y51))), (1, (.pv .str)), (5, (.pv (.int .i64)))], []⟩, fun κ => F29_R2 (fun y => κ.exit 0 (SSh.mk' ⟨[], []⟩ y)) (fun y => κ.ret (SSh.mk' ⟨[(4, (.pv (.int .i64)))], []⟩ y))⟩]
theorem L29_2 : RoundEq E29 L29 L29[0] (nthLoop (codeOf Tryz.f29) 0) := fun κ N x => by kernel_rfl
theorem C29_ok : QuietOk Tryz.prog 29 C29 := tQ E29 L29 [nthLoop (codeOf Tryz.f29) 0] Tryz.func29 ty_ok .nil (.cons L29[0] (by kernel_rfl) L29_2 .nil)
noncomputable def F12_R7 (e2_0 : Int × D25 × Unit → Option (Bool × Unit)) (er_1 : Bool × Unit → Option (Bool × Unit)) (rec : Int × Int × D25 × Unit → Option (Bool × Unit)) (x10 : Int × Int × D25 × Unit) : Option (Bool × Unit) :=
 (gd (decide ((0 : Int) ≤ x10.1))
 (Option.bind x10.2.2.1.1[(Int.toNat x10.1)]? fun y12 =>
 (cond (decide (x10.2.1 < (((List.length y12.2.1) : Nat) : Int)))
 (gd (decide ((0 : Int) ≤ x10.1))
 (Option.bind x10.2.2.1.1[(Int.toNat x10.1)]? fun y14 =>
 (gd (decide ((0 : Int) ≤ x10.2.1))
 (Option.bind y14.2.1[(Int.toNat x10.2.1)]? fun y15 =>
 (gd (decide ((0 : Int) ≤ (IntKind.wrap IntKind.i64 ((((List.length y15.2.1) : Nat) : Int) - (1 : Int)))))
 (Option.bind y15.2.1[(Int.toNat (IntKind.wrap IntKind.i64 ((((List.length y15.2.1) : Nat) : Int) - (1 : Int))))]? fun y16 =>
 (cond (decide (y16.1 > x10.2.2.1.2.2.2.1))
 (er_1 (false, ()))
 (rec (x10.1, (IntKind.wrap IntKind.i64 (x10.2.1 + (1 : Int))), x10.2.2.1, ())))))))))
 (e2_0 (x10.1, x10.2.2.1, ())))))
noncomputable def F12_R4 (e0_0 : D25 × Unit → Option (Bool × Unit)) (er_1 : Bool × Unit → Option (Bool × Unit)) (rec : Int × D25 × Unit → Option (Bool × Unit)) (x6 : Int × D25 × Unit) : Option (Bool × Unit) :=
 (cond (decide (x6.1 < (((List.length x6.2.1.1) : Nat) : Int)))
 (iter (F12_R7
 (fun y17 =>
 (rec ((IntKind.wrap IntKind.i64 (y17.1 + (1 : Int))), y17.2.1, ())))
 (fun y18 =>
 (er_1 (y18.1, ())))) fuel (x6.1, (0 : Int), x6.2.1, ()))
 (e0_0 (x6.2.1, ())))
noncomputable def F12_R18 (e6_0 : Int × D25 × Unit → Option (Bool × Unit)) (er_1 : Bool × Unit → Option (Bool × Unit)) (rec : Int × Int × D25 × Unit → Option (Bool × Unit)) (x35 : Int × Int × D25 × Unit) : Option (Bool × Unit) :=
 (gd (decide ((0 : Int) ≤ x35.1))
 (Option.bind x35.2.2.1.2.1[(Int.toNat x35.1)]? fun y37 =>
 (cond (decide (x35.2.1 < (((List.length y37.2.2.2.1) : Nat) : Int)))
 (gd (decide ((0 : Int) ≤ x35.1))
 (Option.bind x35.2.2.1.2.1[(Int.toNat x35.1)]? fun y39 =>
 (gd (decide ((0 : Int) ≤ x35.2.1))
 (Option.bind y39.2.2.2.1[(Int.toNat x35.2.1)]? fun y40 =>
 (Option.bind (F29 x35.2.2.1.1 y40.1) fun y41 =>
 (cond (decide (y41.1 < (0 : Int)))
 (er_1 (false, ()))
 (rec (x35.1, (IntKind.wrap IntKind.i64 (x35.2.1 + (1 : Int))), x35.2.2.1, ()))))))))
 (e6_0 (x35.1, x35.2.2.1, ())))))
noncomputable def F12_R13 (e4_0 : D25 × Unit → Option (Bool × Unit)) (er_1 : Bool × Unit → Option (Bool × Unit)) (rec : Int × D25 × Unit → Option (Bool × Unit)) (x23 : Int × D25 × Unit) : Option (Bool × Unit) :=
 (cond (decide (x23.1 < (((List.length x23.2.1.2.1) : Nat) : Int)))
 (let j32 : Int × D25 × Unit → Option (Bool × Unit) := fun (y33 : Int × D25 × Unit) =>
 (iter (F12_R18
 (fun y42 =>
 (rec ((IntKind.wrap IntKind.i64 (y42.1 + (1 : Int))), y42.2.1, ())))
 (fun y43 =>
 (er_1 (y43.1, ())))) fuel (y33.1, (0 : Int), y33.2.1, ()))
 (gd (decide ((0 : Int) ≤ x23.1))
 (Option.bind x23.2.1.2.1[(Int.toNat x23.1)]? fun y27 =>
 (Option.bind (F28 y27) fun y28 =>
 (cond (!y28.1)
 (er_1 (false, ()))
 (gd (decide ((0 : Int) ≤ x23.1))
 (Option.bind x23.2.1.2.1[(Int.toNat x23.1)]? fun y29 =>
 (cond (decide (y29.2.1 > x23.2.1.2.2.2.1))
 (er_1 (false, ()))
 (cond (decide (x23.1 > (0 : Int)))
 (gd (decide ((0 : Int) ≤ (IntKind.wrap IntKind.i64 (x23.1 - (1 : Int)))))
 (Option.bind x23.2.1.2.1[(Int.toNat (IntKind.wrap IntKind.i64 (x23.1 - (1 : Int))))]? fun y30 =>
 (gd (decide ((0 : Int) ≤ x23.1))
 (Option.bind x23.2.1.2.1[(Int.toNat x23.1)]? fun y31 =>
 (cond (decide (y30.1 ≥ y31.1))
 (er_1 (false, ()))
 (j32 (x23.1, x23.2.1, ())))))))
 (j32 (x23.1, x23.2.1, ())))))))))))
 (e4_0 (x23.2.1, ())))
noncomputable def F12 (a0 : D25) : Option (Bool × Unit) :=
 (Option.bind (F25 a0.2.2.2.1 (0 : Int) (10000 : Int)) fun y1 =>
 (cond (!y1.1)
 (some (false, ()))
 (cond ((((List.length a0.1) : Nat) : Int) == (0 : Int))
 (some (false, ()))
 (Option.bind (F26 a0.1) fun y2 =>
 (cond (!y2.1)
 (some (false, ()))
 (cond (decide ((((List.length a0.2.1) : Nat) : Int) > (4 : Int)))
 (some (false, ()))
 (Option.bind (F27 a0.2.2.1) fun y3 =>
 (cond (!y3.1)
 (some (false, ()))
 (iter (F12_R4
 (fun y19 =>
 (iter (F12_R13
 (fun y44 =>
 (cond ((((List.length y44.1.2.2.1) : Nat) : Int) == (0 : Int))
 (some (true, ()))
 (gd (decide ((0 : Int) ≤ (IntKind.wrap IntKind.i64 ((((List.length y44.1.2.2.1) : Nat) : Int) - (1 : Int)))))
 (Option.bind y44.1.2.2.1[(Int.toNat (IntKind.wrap IntKind.i64 ((((List.length y44.1.2.2.1) : Nat) : Int) - (1 : Int))))]? fun y46 =>
 (some ((decide (y46.2.1 ≤ y44.1.2.2.2.1)), ()))))))
 (fun y45 =>
 (some (y45.1, ())))) fuel ((0 : Int), y19.1, ())))
 (fun y20 =>
 (some (y20.1, ())))) fuel ((0 : Int), a0, ()))))))))))
noncomputable def C12 : Fun := ⟨[(.ro Y25)], [(.bool, .z)], fun z => F12 z.1⟩
noncomputable def E12 : Env := ⟨162, tyTab tys, oneTab ones, fnTab [(25, C25), (26, C26), (27, C27), (28, C28), (29, C29)], false, [], [(3, [1], []), (4, [1, 3], []), (5, [1, 3], []), (6, [1, 3], []), (7, [1, 3, 4], []), (8, [1, 3, 4], []), (9, [1, 3, 4], []), (12, [1], []), (13, [1, 6], []), (14, [1, 6], []), (15, [1, 6], []), (17, [1, 6], []), (18, [1, 6, 7], []), (19, [1, 6, 7], []), (20, [1, 6, 7], []), (22, [1], []), (100000, [1], []), (100001, [1, 3], []), (100002, [1, 3], []), (100003, [1, 3, 4], []), (100004, [1], []), (100005, [1, 6], []), (100006, [1, 6], []), (100007, [1, 6, 7], []), (99999, [2], [])], none, [], []⟩
noncomputable def L12 : List (LoopS (Bool × Unit)) := [⟨7, ⟨[(1, (.ptr 8 [])), (3, (.pv (.int .i64))), (4, (.pv (.int .i64)))], [(8, (.data true Y25 .z))]⟩, fun κ => F12_R7 (fun y => κ.exit 2 (SSh.mk' ⟨[(1, (.ptr 8 [])), (3, (.pv (.int .i64)))], [(8, (.data true Y25 .z))]⟩ y)) (fun y => κ.ret (SSh.mk' ⟨[(2, (.pv .bool))], []⟩ y))⟩,
  ⟨4, ⟨[(1, (.ptr 8 [])), (3, (.pv (.int .i64)))], [(8, (.data true Y25 .z))]⟩, fun κ => F12_R4 (fun y => κ.exit 0 (SSh.mk' ⟨[(1, (.ptr 8 []))], [(8, (.data true Y25 .z))]⟩ y)) (fun y => κ.ret (SSh.mk' ⟨[(2, (.pv .bool))], []⟩ y))⟩,
  ⟨18, ⟨[(1, (.ptr 8 [])), (6, (.pv (.int .i64))), (7, (.pv (.int .i64)))], [(8, (.data true Y25 .z))]⟩, fun κ => F12_R18 (fun y => κ.exit 6 (SSh.mk' ⟨[(1, (.ptr 8 [])), (6, (.pv (.int .i64)))], [(8, (.data true Y25 .z))]⟩ y)) (fun y => κ.ret (SSh.mk' ⟨[(2, (.pv .bool))], []⟩ y))⟩,
  ⟨13, ⟨[(1, (.ptr 8 [])), (6, (.pv (.int .i64)))], [(8, (.data true Y25 .z))]⟩, fun κ => F12_R13 (fun y => κ.exit 4 (SSh.mk' ⟨[(1, (.ptr 8 []))], [(8, (.data true Y25 .z))]⟩ y)) (fun y => κ.ret (SSh.mk' ⟨[(2, (.pv .bool))], []⟩ y))⟩]
theorem L12_18 : RoundEq E12 L12 L12[2] (nthLoop (codeOf Tryz.f12) 3) := fun κ N x => by kernel_rfl
theorem L12_13 : RoundEq E12 L12 L12[3] (nthLoop (codeOf Tryz.f12) 2) := fun κ N x => by kernel_rfl
theorem L12_7 : RoundEq E12 L12 L12[0] (nthLoop (codeOf Tryz.f12) 1) := fun κ N x => by kernel_rfl
theorem L12_4 : RoundEq E12 L12 L12[1] (nthLoop (codeOf Tryz.f12) 0) := fun κ N x => by kernel_rfl
theorem C12_ok : QuietOk Tryz.prog 12 C12 := tQ E12 L12 [nthLoop (codeOf Tryz.f12) 0, nthLoop (codeOf Tryz.f12) 1, nthLoop (codeOf Tryz.f12) 2, nthLoop (codeOf Tryz.f12) 3] Tryz.func12 ty_ok (.cons C25_ok (.cons C26_ok (.cons C27_ok (.cons C28_ok (.cons C29_ok .nil))))) (.cons L12[1] (by kernel_rfl) L12_4 (.cons L12[0] (by kernel_rfl) L12_7 (.cons L12[3] (by kernel_rfl) L12_13 (.cons L12[2] (by kernel_rfl) L12_18 .nil))))
noncomputable def F57_R3 (e0_0 : D74 × D74 × Unit → Option (D74 × Unit)) (rec : Int × Int × D70 × D74 × D74 × Unit → Option (D74 × Unit)) (x2 : Int × Int × D70 × D74 × D74 × Unit) : Option (D74 × Unit) :=
 (cond (decide (x2.2.1 < (((List.length x2.2.2.1.2.1) : Nat) : Int)))
 (let j7 : Int × Int × D70 × D74 × D74 × Unit → Option (D74 × Unit) := fun (y8 : Int × Int × D70 × D74 × D74 × Unit) =>
 (rec (y8.1, (IntKind.wrap IntKind.i64 (y8.2.1 + (1 : Int))), y8.2.2.1, y8.2.2.2.1, y8.2.2.2.2.1, ()))
 (gd (decide ((0 : Int) ≤ x2.2.1))
 (Option.bind x2.2.2.1.2.1[(Int.toNat x2.2.1)]? fun y5 =>
 (cond (decide (y5.1 ≤ x2.1))
 (gd (decide ((0 : Int) ≤ x2.2.1))
 (Option.bind x2.2.2.1.2.1[(Int.toNat x2.2.1)]? fun y6 =>
 (j7 (x2.1, x2.2.1, x2.2.2.1, x2.2.2.2.1, y6, ()))))
 (j7 (x2.1, x2.2.1, x2.2.2.1, x2.2.2.2.1, x2.2.2.2.2.1, ()))))))
 (e0_0 (x2.2.2.2.1, x2.2.2.2.2.1, ())))
noncomputable def F57 (a0 : D70) (a1 : Int) : Option (D74 × Unit) :=
 (iter (F57_R3
 (fun y9 =>
 (some (y9.2.1, ())))) fuel (a1, (0 : Int), a0, ((0 : Int), (false, (((0 : Int), ((0 : Int), ([], ()))), ()))), ((0 : Int), (true, (((0 : Int), ((0 : Int), ([], ()))), ()))), ()))
noncomputable def C57 : Fun := ⟨[(.ro Y70), (.ro (.int .i64))], [(Y74, .z)], fun z => F57 z.1 z.2.1⟩
noncomputable def E57 : Env := ⟨29, tyTab tys, oneTab ones, fnTab [], false, [], [(3, [1, 2, 4, 5, 6], []), (4, [1, 2, 4, 5, 6], []), (5, [1, 2, 4, 5, 6], []), (7, [4, 5], []), (100000, [4, 5], []), (100001, [1, 2, 4, 5, 6], []), (99999, [4], [])], none, [], []⟩
noncomputable def L57 : List (LoopS (D74 × Unit)) := [⟨3, ⟨[(1, (.pv (.int .i64))), (2, (.ptr 16 [])), (4, (.ptr 32 [])), (5, (.ptr 40 [])), (6, (.pv (.int .i64)))], [(16, (.data true Y70 .z)), (32, (.data true Y74 .z)), (40, (.data true Y74 .z))]⟩, fun κ => F57_R3 (fun y => κ.exit 0 (SSh.mk' ⟨[(4, (.ptr 32 [])), (5, (.ptr 40 []))], [(32, (.data true Y74 .z)), (40, (.data true Y74 .z))]⟩ y))⟩]
theorem L57_3 : RoundEq E57 L57 L57[0] (nthLoop (codeOf Tryz.f57) 0) := fun κ N x => by kernel_rfl
theorem C57_ok : QuietOk Tryz.prog 57 C57 := tQ E57 L57 [nthLoop (codeOf Tryz.f57) 0] Tryz.func57 ty_ok .nil (.cons L57[0] (by kernel_rfl) L57_3 .nil)
noncomputable def F30_R3 (e0_0 : List (D72) × Unit → Option (List (D72) × Unit)) (rec : Int × Int × D51 × List (D72) × Unit → Option (List (D72) × Unit)) (x2 : Int × Int × D51 × List (D72) × Unit) : Option (List (D72) × Unit) :=
 (cond (decide (x2.2.1 < (((List.length x2.2.2.1.2.1) : Nat) : Int)))
 (let j7 : Int × Int × D51 × List (D72) × Unit → Option (List (D72) × Unit) := fun (y8 : Int × Int × D51 × List (D72) × Unit) =>
 (rec (y8.1, (IntKind.wrap IntKind.i64 (y8.2.1 + (1 : Int))), y8.2.2.1, y8.2.2.2.1, ()))
 (gd (decide ((0 : Int) ≤ x2.2.1))
 (Option.bind x2.2.2.1.2.1[(Int.toNat x2.2.1)]? fun y5 =>
 (Option.bind (F57 y5 x2.1) fun y6 =>
 (cond (!y6.1.2.1)
 (gd (decide (((List.length x2.2.2.2.1) + (List.length [y6.1.2.2.1])) ≤ lim))
 (j7 (x2.1, x2.2.1, x2.2.2.1, (x2.2.2.2.1 ++ [y6.1.2.2.1]), ())))
 (j7 (x2.1, x2.2.1, x2.2.2.1, x2.2.2.2.1, ())))))))
 (e0_0 (x2.2.2.2.1, ())))
noncomputable def F30 (a0 : D51) (a1 : Int) : Option (List (D72) × Unit) :=
 (iter (F30_R3
 (fun y9 =>
 (some (y9.1, ())))) fuel (a1, (0 : Int), a0, [], ()))
noncomputable def C30 : Fun := ⟨[(.ro Y51), (.ro (.int .i64))], [((.slice Y72), .z)], fun z => F30 z.1 z.2.1⟩
noncomputable def E30 : Env := ⟨32, tyTab tys, oneTab ones, fnTab [(57, C57)], false, [], [(3, [1, 2, 5, 6], []), (4, [1, 2, 5, 6], []), (5, [1, 2, 5, 6], []), (8, [5], []), (100000, [5], []), (100001, [1, 2, 5, 6], []), (99999, [4], [])], none, [], []⟩
noncomputable def L30 : List (LoopS (List (D72) × Unit)) := [⟨3, ⟨[(1, (.pv (.int .i64))), (2, (.ptr 16 [])), (5, (.ref (.slice Y72) 64 [])), (6, (.pv (.int .i64)))], [(16, (.data true Y51 .z)), (64, (.data false (.slice Y72) (.own .z)))]⟩, fun κ => F30_R3 (fun y => κ.exit 0 (SSh.mk' ⟨[(5, (.ref (.slice Y72) 64 []))], [(64, (.data false (.slice Y72) (.own .z)))]⟩ y))⟩]
theorem L30_3 : RoundEq E30 L30 L30[0] (nthLoop (codeOf Tryz.f30) 0) := fun κ N x => by kernel_rfl
theorem C30_ok : QuietOk Tryz.prog 30 C30 := tQ E30 L30 [nthLoop (codeOf Tryz.f30) 0] Tryz.func30 ty_ok (.cons C57_ok .nil) (.cons L30[0] (by kernel_rfl) L30_3 .nil)
noncomputable def F13_R11 (e2_0 : Int × D25 × D25 × Unit → Option (Bool × Unit)) (er_1 : Bool × Unit → Option (Bool × Unit)) (rec : Int × List (D72) × List (D72) × Int × D25 × D25 × Unit → Option (Bool × Unit)) (x14 : Int × List (D72) × List (D72) × Int × D25 × D25 × Unit) : Option (Bool × Unit) :=
 (cond (decide (x14.2.2.2.1 < (((List.length x14.2.1) : Nat) : Int)))
 (gd (decide ((0 : Int) ≤ x14.2.2.2.1))
 (Option.bind x14.2.1[(Int.toNat x14.2.2.2.1)]? fun y17 =>
 (gd (decide ((0 : Int) ≤ x14.2.2.2.1))
 (Option.bind x14.2.2.1[(Int.toNat x14.2.2.2.1)]? fun y18 =>
 (cond (!((decide (y17.1 = y18.1)) && ((decide (y17.2.1 = y18.2.1)) && ((y17.2.2.1 == y18.2.2.1) && true))))
 (er_1 (false, ()))
 (rec (x14.1, x14.2.1, x14.2.2.1, (IntKind.wrap IntKind.i64 (x14.2.2.2.1 + (1 : Int))), x14.2.2.2.2.1, x14.2.2.2.2.2.1, ())))))))
 (e2_0 (x14.1, x14.2.2.2.2.1, x14.2.2.2.2.2.1, ())))
noncomputable def F13_R4 (e0_0 : Unit → Option (Bool × Unit)) (er_1 : Bool × Unit → Option (Bool × Unit)) (rec : Int × D25 × D25 × Unit → Option (Bool × Unit)) (x3 : Int × D25 × D25 × Unit) : Option (Bool × Unit) :=
 (cond (decide (x3.1 < (((List.length x3.2.1.1) : Nat) : Int)))
 (gd (decide ((0 : Int) ≤ x3.1))
 (Option.bind x3.2.1.1[(Int.toNat x3.1)]? fun y6 =>
 (Option.bind (F30 y6 x3.2.1.2.2.2.1) fun y7 =>
 (gd (decide ((0 : Int) ≤ x3.1))
 (Option.bind x3.2.2.1.1[(Int.toNat x3.1)]? fun y8 =>
 (Option.bind (F30 y8 x3.2.2.1.2.2.2.1) fun y9 =>
 (gd (decide ((0 : Int) ≤ x3.1))
 (Option.bind x3.2.1.1[(Int.toNat x3.1)]? fun y11 =>
 (gd (decide ((0 : Int) ≤ x3.1))
 (Option.bind x3.2.2.1.1[(Int.toNat x3.1)]? fun y12 =>
 (cond (!(y11.1 == y12.1))
 (er_1 (false, ()))
 (cond ((((List.length y7.1) : Nat) : Int) != (((List.length y9.1) : Nat) : Int))
 (er_1 (false, ()))
 (iter (F13_R11
 (fun y19 =>
 (rec ((IntKind.wrap IntKind.i64 (y19.1 + (1 : Int))), y19.2.1, y19.2.2.1, ())))
 (fun y20 =>
 (er_1 (y20.1, ())))) fuel (x3.1, y7.1, y9.1, (0 : Int), x3.2.1, x3.2.2.1, ()))))))))))))))
 (e0_0 (())))
noncomputable def F13 (a0 : D25) (a1 : D25) : Option (Bool × Unit) :=
 (cond ((((List.length a0.1) : Nat) : Int) != (((List.length a1.1) : Nat) : Int))
 (some (false, ()))
 (iter (F13_R4
 (fun y21 =>
 (some (true, ())))
 (fun y22 =>
 (some (y22.1, ())))) fuel ((0 : Int), a0, a1, ())))
noncomputable def C13 : Fun := ⟨[(.ro Y25), (.ro Y25)], [(.bool, .z)], fun z => F13 z.1 z.2.1⟩
noncomputable def E13 : Env := ⟨74, tyTab tys, oneTab ones, fnTab [(30, C30)], false, [], [(3, [2, 3], []), (4, [2, 3, 5], []), (5, [2, 3, 5], []), (6, [2, 3, 5], []), (10, [2, 3, 5, 6, 7], []), (11, [2, 3, 5, 6, 7, 8], []), (12, [2, 3, 5, 6, 7, 8], []), (13, [2, 3, 5, 6, 7, 8], []), (15, [], []), (100000, [], []), (100001, [2, 3, 5], []), (100002, [2, 3, 5], []), (100003, [2, 3, 5, 6, 7, 8], []), (99999, [4], [])], none, [], []⟩
noncomputable def L13 : List (LoopS (Bool × Unit)) := [⟨11, ⟨[(2, (.ptr 16 [])), (3, (.ptr 24 [])), (5, (.pv (.int .i64))), (6, (.pv (.slice Y72))), (7, (.pv (.slice Y72))), (8, (.pv (.int .i64)))], [(16, (.data true Y25 .z)), (24, (.data true Y25 .z))]⟩, fun κ => F13_R11 (fun y => κ.exit 2 (SSh.mk' ⟨[(2, (.ptr 16 [])), (3, (.ptr 24 [])), (5, (.pv (.int .i64)))], [(16, (.data true Y25 .z)), (24, (.data true Y25 .z))]⟩ y)) (fun y => κ.ret (SSh.mk' ⟨[(4, (.pv .bool))], []⟩ y))⟩,
  ⟨4, ⟨[(2, (.ptr 16 [])), (3, (.ptr 24 [])), (5, (.pv (.int .i64)))], [(16, (.data true Y25 .z)), (24, (.data true Y25 .z))]⟩, fun κ => F13_R4 (fun y => κ.exit 0 (SSh.mk' ⟨[], []⟩ y)) (fun y => κ.ret (SSh.mk' ⟨[(4, (.pv .bool))], []⟩ y))⟩]
theorem L13_11 : RoundEq E13 L13 L13[0] (nthLoop (codeOf Tryz.f13) 1) := fun κ N x => by kernel_rfl
theorem L13_4 : RoundEq E13 L13 L13[1] (nthLoop (codeOf Tryz.f13) 0) := fun κ N x => by kernel_rfl
theorem C13_ok : QuietOk Tryz.prog 13 C13 := tQ E13 L13 [nthLoop (codeOf Tryz.f13) 0, nthLoop (codeOf Tryz.f13) 1] Tryz.func13 ty_ok (.cons C30_ok .nil) (.cons L13[1] (by kernel_rfl) L13_4 (.cons L13[0] (by kernel_rfl) L13_11 .nil))
noncomputable def F5 (a0 : D25) (a1 : D25) : Option (Bool × Int × Unit) :=
 (Option.bind (F12 a0) fun y1 =>
 (cond (!y1.1)
 (some (false, ((1 : Int), ())))
 (Option.bind (F12 a1) fun y2 =>
 (cond (!y2.1)
 (some (false, ((1 : Int), ())))
 (Option.bind (F13 a0 a1) fun y3 =>
 (some (y3.1, ((0 : Int), ()))))))))
noncomputable def C5 : Fun := ⟨[(.ro Y25), (.ro Y25)], [(.bool, .z), ((.int .i64), .z)], fun z => F5 z.1 z.2.1⟩
noncomputable def E5 : Env := ⟨17, tyTab tys, oneTab ones, fnTab [(12, C12), (13, C13)], false, [], [(3, [2, 3], []), (99999, [4, 5], [])], none, [], []⟩
noncomputable def L5 : List (LoopS (Bool × Int × Unit)) := []
theorem C5_ok : QuietOk Tryz.prog 5 C5 := tQ E5 L5 [] Tryz.func5 ty_ok (.cons C12_ok (.cons C13_ok .nil)) .nil
noncomputable def F126 (a0 : D72) : Option (D72 × Unit) :=
 (some ((a0.1, (a0.2.1, (a0.2.2.1, ()))), ()))
noncomputable def C126 : Fun := ⟨[(.ro Y72)], [(Y72, .z)], fun z => F126 z.1⟩
noncomputable def E126 : Env := ⟨14, tyTab tys, oneTab ones, fnTab [], false, [], [(99999, [2], [])], none, [], []⟩
noncomputable def L126 : List (LoopS (D72 × Unit)) := []
theorem C126_ok : QuietOk Tryz.prog 126 C126 := tQ E126 L126 [] Tryz.func126 ty_ok .nil .nil
noncomputable def F154 (a0 : D74) : Option (D74 × Unit) :=
 (Option.bind (F126 a0.2.2.1) fun y0 =>
 (some ((a0.1, (a0.2.1, (y0.1, ()))), ())))
noncomputable def C154 : Fun := ⟨[(.ro Y74)], [(Y74, .z)], fun z => F154 z.1⟩
noncomputable def E154 : Env := ⟨15, tyTab tys, oneTab ones, fnTab [(126, C126)], false, [], [(99999, [2], [])], none, [], []⟩
noncomputable def L154 : List (LoopS (D74 × Unit)) := []
theorem C154_ok : QuietOk Tryz.prog 154 C154 := tQ E154 L154 [] Tryz.func154 ty_ok (.cons C126_ok .nil) .nil
noncomputable def F123_R3 (e0_0 : List (D74) × Unit → Option (List (D74) × Unit)) (rec : List (D74) × Int × List (D74) × Unit → Option (List (D74) × Unit)) (x2 : List (D74) × Int × List (D74) × Unit) : Option (List (D74) × Unit) :=
 (cond (decide (x2.2.1 < (((List.length x2.1) : Nat) : Int)))
 (gd (decide ((0 : Int) ≤ x2.2.1))
 (Option.bind x2.1[(Int.toNat x2.2.1)]? fun y4 =>
 (Option.bind (F154 y4) fun y5 =>
 (gd (decide ((0 : Int) ≤ x2.2.1))
 (gd (decide (x2.2.1 < (((List.length x2.2.2.1) : Nat) : Int)))
 (Option.bind x2.2.2.1[(Int.toNat x2.2.1)]? fun y6 =>
 (rec (x2.1, (IntKind.wrap IntKind.i64 (x2.2.1 + (1 : Int))), (List.set x2.2.2.1 (Int.toNat x2.2.1) y5.1), ()))))))))
 (e0_0 (x2.2.2.1, ())))
noncomputable def F123 (a0 : List (D74)) : Option (List (D74) × Unit) :=
 (gd (decide ((((List.length a0) : Nat) : Int) ≤ ((4294967296 : Nat) : Int)))
 (gd (decide ((((List.length a0) : Nat) : Int) ≤ (((Int.toNat (((List.length a0) : Nat) : Int)) : Nat) : Int)))
 (iter (F123_R3
 (fun y7 =>
 (some (y7.1, ())))) fuel (a0, (0 : Int), (List.replicate (Int.toNat (((List.length a0) : Nat) : Int)) ((0 : Int), (false, (((0 : Int), ((0 : Int), ([], ()))), ())))), ()))))
noncomputable def C123 : Fun := ⟨[(.ro (.slice Y74))], [((.slice Y74), .z)], fun z => F123 z.1⟩
noncomputable def E123 : Env := ⟨23, tyTab tys, oneTab ones, fnTab [(154, C154)], false, [], [(3, [0, 3, 4], []), (5, [0, 3, 4], []), (6, [3], []), (100000, [3], []), (100001, [0, 3, 4], []), (99999, [2], [])], none, [], []⟩
noncomputable def L123 : List (LoopS (List (D74) × Unit)) := [⟨3, ⟨[(0, (.pv (.slice Y74))), (3, (.ref (.slice Y74) 56 [])), (4, (.pv (.int .i64)))], [(56, (.data false (.slice Y74) (.own .z)))]⟩, fun κ => F123_R3 (fun y => κ.exit 0 (SSh.mk' ⟨[(3, (.ref (.slice Y74) 56 []))], [(56, (.data false (.slice Y74) (.own .z)))]⟩ y))⟩]
theorem L123_3 : RoundEq E123 L123 L123[0] (nthLoop (codeOf Tryz.f123) 0) := fun κ N x => by kernel_rfl
theorem C123_ok : QuietOk Tryz.prog 123 C123 := tQ E123 L123 [nthLoop (codeOf Tryz.f123) 0] Tryz.func123 ty_ok (.cons C154_ok .nil) (.cons L123[0] (by kernel_rfl) L123_3 .nil)
noncomputable def F86 (a0 : D70) : Option (D70 × Unit) :=
 (Option.bind (F123 a0.2.1) fun y0 =>
 (some ((a0.1, (y0.1, ())), ())))
noncomputable def C86 : Fun := ⟨[(.ro Y70)], [(Y70, .z)], fun z => F86 z.1⟩
noncomputable def E86 : Env := ⟨12, tyTab tys, oneTab ones, fnTab [(123, C123)], false, [], [(99999, [2], [])], none, [], []⟩
noncomputable def L86 : List (LoopS (D70 × Unit)) := []
theorem C86_ok : QuietOk Tryz.prog 86 C86 := tQ E86 L86 [] Tryz.func86 ty_ok (.cons C123_ok .nil) .nil
noncomputable def F58_R3 (e0_0 : List (D70) × Unit → Option (List (D70) × Unit)) (rec : List (D70) × Int × List (D70) × Unit → Option (List (D70) × Unit)) (x2 : List (D70) × Int × List (D70) × Unit) : Option (List (D70) × Unit) :=
 (cond (decide (x2.2.1 < (((List.length x2.1) : Nat) : Int)))
 (gd (decide ((0 : Int) ≤ x2.2.1))
 (Option.bind x2.1[(Int.toNat x2.2.1)]? fun y4 =>
 (Option.bind (F86 y4) fun y5 =>
 (gd (decide ((0 : Int) ≤ x2.2.1))
 (gd (decide (x2.2.1 < (((List.length x2.2.2.1) : Nat) : Int)))
 (Option.bind x2.2.2.1[(Int.toNat x2.2.1)]? fun y6 =>
 (rec (x2.1, (IntKind.wrap IntKind.i64 (x2.2.1 + (1 : Int))), (List.set x2.2.2.1 (Int.toNat x2.2.1) y5.1), ()))))))))
 (e0_0 (x2.2.2.1, ())))
noncomputable def F58 (a0 : List (D70)) : Option (List (D70) × Unit) :=
 (gd (decide ((((List.length a0) : Nat) : Int) ≤ ((4294967296 : Nat) : Int)))
 (gd (decide ((((List.length a0) : Nat) : Int) ≤ (((Int.toNat (((List.length a0) : Nat) : Int)) : Nat) : Int)))
 (iter (F58_R3
 (fun y7 =>
 (some (y7.1, ())))) fuel (a0, (0 : Int), (List.replicate (Int.toNat (((List.length a0) : Nat) : Int)) ((0 : Int), ([], ()))), ()))))
noncomputable def C58 : Fun := ⟨[(.ro (.slice Y70))], [((.slice Y70), .z)], fun z => F58 z.1⟩
noncomputable def E58 : Env := ⟨23, tyTab tys, oneTab ones, fnTab [(86, C86)], false, [], [(3, [0, 3, 4], []), (5, [0, 3, 4], []), (6, [3], []), (100000, [3], []), (100001, [0, 3, 4], []), (99999, [2], [])], none, [], []⟩
noncomputable def L58 : List (LoopS (List (D70) × Unit)) := [⟨3, ⟨[(0, (.pv (.slice Y70))), (3, (.ref (.slice Y70) 56 [])), (4, (.pv (.int .i64)))], [(56, (.data false (.slice Y70) (.own .z)))]⟩, fun κ => F58_R3 (fun y => κ.exit 0 (SSh.mk' ⟨[(3, (.ref (.slice Y70) 56 []))], [(56, (.data false (.slice Y70) (.own .z)))]⟩ y))⟩]
theorem L58_3 : RoundEq E58 L58 L58[0] (nthLoop (codeOf Tryz.f58) 0) := fun κ N x => by kernel_rfl
theorem C58_ok : QuietOk Tryz.prog 58 C58 := tQ E58 L58 [nthLoop (codeOf Tryz.f58) 0] Tryz.func58 ty_ok (.cons C86_ok .nil) (.cons L58[0] (by kernel_rfl) L58_3 .nil)
noncomputable def F155 (a0 : D187) : Option (D187 × Unit) :=
 (some ((a0.1, (a0.2.1, ())), ()))
noncomputable def C155 : Fun := ⟨[(.ro Y187)], [(Y187, .z)], fun z => F155 z.1⟩
noncomputable def E155 : Env := ⟨11, tyTab tys, oneTab ones, fnTab [], false, [], [(99999, [2], [])], none, [], []⟩
noncomputable def L155 : List (LoopS (D187 × Unit)) := []
theorem C155_ok : QuietOk Tryz.prog 155 C155 := tQ E155 L155 [] Tryz.func155 ty_ok .nil .nil
noncomputable def F124_R3 (e0_0 : List (D187) × Unit → Option (List (D187) × Unit)) (rec : List (D187) × Int × List (D187) × Unit → Option (List (D187) × Unit)) (x2 : List (D187) × Int × List (D187) × Unit) : Option (List (D187) × Unit) :=
 (cond (decide (x2.2.1 < (((List.length x2.1) : Nat) : Int)))
 (gd (decide ((0 : Int) ≤ x2.2.1))
 (Option.bind x2.1[(Int.toNat x2.2.1)]? fun y4 =>
 (Option.bind (F155 y4) fun y5 =>
 (gd (decide ((0 : Int) ≤ x2.2.1))
 (gd (decide (x2.2.1 < (((List.length x2.2.2.1) : Nat) : Int)))
 (Option.bind x2.2.2.1[(Int.toNat x2.2.1)]? fun y6 =>
 (rec (x2.1, (IntKind.wrap IntKind.i64 (x2.2.1 + (1 : Int))), (List.set x2.2.2.1 (Int.toNat x2.2.1) y5.1), ()))))))))
 (e0_0 (x2.2.2.1, ())))
noncomputable def F124 (a0 : List (D187)) : Option (List (D187) × Unit) :=
 (gd (decide ((((List.length a0) : Nat) : Int) ≤ ((4294967296 : Nat) : Int)))
 (gd (decide ((((List.length a0) : Nat) : Int) ≤ (((Int.toNat (((List.length a0) : Nat) : Int)) : Nat) : Int)))
 (iter (F124_R3
 (fun y7 =>
 (some (y7.1, ())))) fuel (a0, (0 : Int), (List.replicate (Int.toNat (((List.length a0) : Nat) : Int)) ([], (false, ()))), ()))))
noncomputable def C124 : Fun := ⟨[(.ro (.slice Y187))], [((.slice Y187), .z)], fun z => F124 z.1⟩
noncomputable def E124 : Env := ⟨23, tyTab tys, oneTab ones, fnTab [(155, C155)], false, [], [(3, [0, 3, 4], []), (5, [0, 3, 4], []), (6, [3], []), (100000, [3], []), (100001, [0, 3, 4], []), (99999, [2], [])], none, [], []⟩
noncomputable def L124 : List (LoopS (List (D187) × Unit)) := [⟨3, ⟨[(0, (.pv (.slice Y187))), (3, (.ref (.slice Y187) 56 [])), (4, (.pv (.int .i64)))], [(56, (.data false (.slice Y187) (.own .z)))]⟩, fun κ => F124_R3 (fun y => κ.exit 0 (SSh.mk' ⟨[(3, (.ref (.slice Y187) 56 []))], [(56, (.data false (.slice Y187) (.own .z)))]⟩ y))⟩]
theorem L124_3 : RoundEq E124 L124 L124[0] (nthLoop (codeOf Tryz.f124) 0) := fun κ N x => by kernel_rfl
theorem C124_ok : QuietOk Tryz.prog 124 C124 := tQ E124 L124 [nthLoop (codeOf Tryz.f124) 0] Tryz.func124 ty_ok (.cons C155_ok .nil) (.cons L124[0] (by kernel_rfl) L124_3 .nil)
noncomputable def F87 (a0 : D137) : Option (D137 × Unit) :=
 (Option.bind (F124 a0.2.1) fun y0 =>
 (some ((a0.1, (y0.1, ())), ())))
noncomputable def C87 : Fun := ⟨[(.ro Y137)], [(Y137, .z)], fun z => F87 z.1⟩
noncomputable def E87 : Env := ⟨12, tyTab tys, oneTab ones, fnTab [(124, C124)], false, [], [(99999, [2], [])], none, [], []⟩
noncomputable def L87 : List (LoopS (D137 × Unit)) := []
theorem C87_ok : QuietOk Tryz.prog 87 C87 := tQ E87 L87 [] Tryz.func87 ty_ok (.cons C124_ok .nil) .nil
noncomputable def F59_R3 (e0_0 : List (D137) × Unit → Option (List (D137) × Unit)) (rec : List (D137) × Int × List (D137) × Unit → Option (List (D137) × Unit)) (x2 : List (D137) × Int × List (D137) × Unit) : Option (List (D137) × Unit) :=
 (cond (decide (x2.2.1 < (((List.length x2.1) : Nat) : Int)))
 (gd (decide ((0 : Int) ≤ x2.2.1))
 (Option.bind x2.1[(Int.toNat x2.2.1)]? fun y4 =>
 (Option.bind (F87 y4) fun y5 =>
 (gd (decide ((0 : Int) ≤ x2.2.1))
 (gd (decide (x2.2.1 < (((List.length x2.2.2.1) : Nat) : Int)))
 (Option.bind x2.2.2.1[(Int.toNat x2.2.1)]? fun y6 =>
 (rec (x2.1, (IntKind.wrap IntKind.i64 (x2.2.1 + (1 : Int))), (List.set x2.2.2.1 (Int.toNat x2.2.1) y5.1), ()))))))))
 (e0_0 (x2.2.2.1, ())))
noncomputable def F59 (a0 : List (D137)) : Option (List (D137) × Unit) :=
 (gd (decide ((((List.length a0) : Nat) : Int) ≤ ((4294967296 : Nat) : Int)))
 (gd (decide ((((List.length a0) : Nat) : Int) ≤ (((Int.toNat (((List.length a0) : Nat) : Int)) : Nat) : Int)))
 (iter (F59_R3
 (fun y7 =>
 (some (y7.1, ())))) fuel (a0, (0 : Int), (List.replicate (Int.toNat (((List.length a0) : Nat) : Int)) ([], ([], ()))), ()))))
noncomputable def C59 : Fun := ⟨[(.ro (.slice Y137))], [((.slice Y137), .z)], fun z => F59 z.1⟩
noncomputable def E59 : Env := ⟨23, tyTab tys, oneTab ones, fnTab [(87, C87)], false, [], [(3, [0, 3, 4], []), (5, [0, 3, 4], []), (6, [3], []), (100000, [3], []), (100001, [0, 3, 4], []), (99999, [2], [])], none, [], []⟩
noncomputable def L59 : List (LoopS (List (D137) × Unit)) := [⟨3, ⟨[(0, (.pv (.slice Y137))), (3, (.ref (.slice Y137) 56 [])), (4, (.pv (.int .i64)))], [(56, (.data false (.slice Y137) (.own .z)))]⟩, fun κ => F59_R3 (fun y => κ.exit 0 (SSh.mk' ⟨[(3, (.ref (.slice Y137) 56 []))], [(56, (.data false (.slice Y137) (.own .z)))]⟩ y))⟩]
theorem L59_3 : RoundEq E59 L59 L59[0] (nthLoop (codeOf Tryz.f59) 0) := fun κ N x => by kernel_rfl
theorem C59_ok : QuietOk Tryz.prog 59 C59 := tQ E59 L59 [nthLoop (codeOf Tryz.f59) 0] Tryz.func59 ty_ok (.cons C87_ok .nil) (.cons L59[0] (by kernel_rfl) L59_3 .nil)
noncomputable def F31 (a0 : D51) : Option (D51 × Unit) :=
 (Option.bind (F58 a0.2.1) fun y0 =>
 (Option.bind (F59 a0.2.2.1) fun y1 =>
 (some ((a0.1, (y0.1, (y1.1, ()))), ()))))
noncomputable def C31 : Fun := ⟨[(.ro Y51)], [(Y51, .z)], fun z => F31 z.1⟩
noncomputable def E31 : Env := ⟨16, tyTab tys, oneTab ones, fnTab [(58, C58), (59, C59)], false, [], [(99999, [2], [])], none, [], []⟩
noncomputable def L31 : List (LoopS (D51 × Unit)) := []
theorem C31_ok : QuietOk Tryz.prog 31 C31 := tQ E31 L31 [] Tryz.func31 ty_ok (.cons C58_ok (.cons C59_ok .nil)) .nil
noncomputable def F14_R3 (e0_0 : List (D51) × Unit → Option (List (D51) × Unit)) (rec : List (D51) × Int × List (D51) × Unit → Option (List (D51) × Unit)) (x2 : List (D51) × Int × List (D51) × Unit) : Option (List (D51) × Unit) :=
 (cond (decide (x2.2.1 < (((List.length x2.1) : Nat) : Int)))
 (gd (decide ((0 : Int) ≤ x2.2.1))
 (Option.bind x2.1[(Int.toNat x2.2.1)]? fun y4 =>
 (Option.bind (F31 y4) fun y5 =>
 (gd (decide ((0 : Int) ≤ x2.2.1))
 (gd (decide (x2.2.1 < (((List.length x2.2.2.1) : Nat) : Int)))
 (Option.bind x2.2.2.1[(Int.toNat x2.2.1)]? fun y6 =>
 (rec (x2.1, (IntKind.wrap IntKind.i64 (x2.2.1 + (1 : Int))), (List.set x2.2.2.1 (Int.toNat x2.2.1) y5.1), ()))))))))
 (e0_0 (x2.2.2.1, ())))
noncomputable def F14 (a0 : List (D51)) : Option (List (D51) × Unit) :=
 (gd (decide ((((List.length a0) : Nat) : Int) ≤ ((4294967296 : Nat) : Int)))
 (gd (decide ((((List.length a0) : Nat) : Int) ≤ (((Int.toNat (((List.length a0) : Nat) : Int)) : Nat) : Int)))
 (iter (F14_R3
 (fun y7 =>
 (some (y7.1, ())))) fuel (a0, (0 : Int), (List.replicate (Int.toNat (((List.length a0) : Nat) : Int)) ([], ([], ([], ())))), ()))))
noncomputable def C14 : Fun := ⟨[(.ro (.slice Y51))], [((.slice Y51), .z)], fun z => F14 z.1⟩
noncomputable def E14 : Env := ⟨23, tyTab tys, oneTab ones, fnTab [(31, C31)], false, [], [(3, [0, 3, 4], []), (5, [0, 3, 4], []), (6, [3], []), (100000, [3], []), (100001, [0, 3, 4], []), (99999, [2], [])], none, [], []⟩
noncomputable def L14 : List (LoopS (List (D51) × Unit)) := [⟨3, ⟨[(0, (.pv (.slice Y51))), (3, (.ref (.slice Y51) 56 [])), (4, (.pv (.int .i64)))], [(56, (.data false (.slice Y51) (.own .z)))]⟩, fun κ => F14_R3 (fun y => κ.exit 0 (SSh.mk' ⟨[(3, (.ref (.slice Y51) 56 []))], [(56, (.data false (.slice Y51) (.own .z)))]⟩ y))⟩]
theorem L14_3 : RoundEq E14 L14 L14[0] (nthLoop (codeOf Tryz.f14) 0) := fun κ N x => by kernel_rfl
theorem C14_ok : QuietOk Tryz.prog 14 C14 := tQ E14 L14 [nthLoop (codeOf Tryz.f14) 0] Tryz.func14 ty_ok (.cons C31_ok .nil) (.cons L14[0] (by kernel_rfl) L14_3 .nil)
noncomputable def F202 (a0 : D195) : Option (D195 × Unit) :=
 (Option.bind (F126 a0.2.2.1) fun y0 =>
 (some ((a0.1, (a0.2.1, (y0.1, ()))), ())))
noncomputable def C202 : Fun := ⟨[(.ro Y195)], [(Y195, .z)], fun z => F202 z.1⟩
noncomputable def E202 : Env := ⟨15, tyTab tys, oneTab ones, fnTab [(126, C126)], false, [], [(99999, [2], [])], none, [], []⟩
noncomputable def L202 : List (LoopS (D195 × Unit)) := []
theorem C202_ok : QuietOk Tryz.prog 202 C202 := tQ E202 L202 [] Tryz.func202 ty_ok (.cons C126_ok .nil) .nil
noncomputable def F191_R3 (e0_0 : List (D195) × Unit → Option D192) (rec : List (D195) × Int × List (D195) × Unit → Option D192) (x2 : List (D195) × Int × List (D195) × Unit) : Option D192 :=
 (cond (decide (x2.2.1 < (((List.length x2.1) : Nat) : Int)))
 (gd (decide ((0 : Int) ≤ x2.2.1))
 (Option.bind x2.1[(Int.toNat x2.2.1)]? fun y4 =>
 (Option.bind (F202 y4) fun y5 =>
 (gd (decide ((0 : Int) ≤ x2.2.1))
 (gd (decide (x2.2.1 < (((List.length x2.2.2.1) : Nat) : Int)))
 (Option.bind x2.2.2.1[(Int.toNat x2.2.1)]? fun y6 =>
 (rec (x2.1, (IntKind.wrap IntKind.i64 (x2.2.1 + (1 : Int))), (List.set x2.2.2.1 (Int.toNat x2.2.1) y5.1), ()))))))))
 (e0_0 (x2.2.2.1, ())))
noncomputable def F191 (a0 : List (D195)) : Option D192 :=
 (gd (decide ((((List.length a0) : Nat) : Int) ≤ ((4294967296 : Nat) : Int)))
 (gd (decide ((((List.length a0) : Nat) : Int) ≤ (((Int.toNat (((List.length a0) : Nat) : Int)) : Nat) : Int)))
 (iter (F191_R3
 (fun y7 =>
 (some (y7.1, ())))) fuel (a0, (0 : Int), (List.replicate (Int.toNat (((List.length a0) : Nat) : Int)) ((0 : Int), ([], (((0 : Int), ((0 : Int), ([], ()))), ())))), ()))))
noncomputable def C191 : Fun := ⟨[(.ro (.slice Y195))], [((.slice Y195), .z)], fun z => F191 z.1⟩
noncomputable def E191 : Env := ⟨23, tyTab tys, oneTab ones, fnTab [(202, C202)], false, [], [(3, [0, 3, 4], []), (5, [0, 3, 4], []), (6, [3], []), (100000, [3], []), (100001, [0, 3, 4], []), (99999, [2], [])], none, [], []⟩
noncomputable def L191 : List (LoopS D192) := [⟨3, ⟨[(0, (.pv (.slice Y195))), (3, (.ref (.slice Y195) 56 [])), (4, (.pv (.int .i64)))], [(56, (.data false (.slice Y195) (.own .z)))]⟩, fun κ => F191_R3 (fun y => κ.exit 0 (SSh.mk' ⟨[(3, (.ref (.slice Y195) 56 []))], [(56, (.data false (.slice Y195) (.own .z)))]⟩ y))⟩]
theorem L191_3 : RoundEq E191 L191 L191[0] (nthLoop (codeOf Tryz.f191) 0) := fun κ N x => by kernel_rfl
theorem C191_ok : QuietOk Tryz.prog 191 C191 := tQ E191 L191 [nthLoop (codeOf Tryz.f191) 0] Tryz.func191 ty_ok (.cons C202_ok .nil) (.cons L191[0] (by kernel_rfl) L191_3 .nil)
noncomputable def F175 (a0 : D192) : Option (D192 × Unit) :=
 (Option.bind (F191 a0.1) fun y0 =>
 (some ((y0.1, ()), ())))
noncomputable def C175 : Fun := ⟨[(.ro Y192)], [(Y192, .z)], fun z => F175 z.1⟩
noncomputable def E175 : Env := ⟨9, tyTab tys, oneTab ones, fnTab [(191, C191)], false, [], [(99999, [2], [])], none, [], []⟩
noncomputable def L175 : List (LoopS (D192 × Unit)) := []
theorem C175_ok : QuietOk Tryz.prog 175 C175 := tQ E175 L175 [] Tryz.func175 ty_ok (.cons C191_ok .nil) .nil
noncomputable def F156_R3 (e0_0 : List (D192) × Unit → Option D109) (rec : List (D192) × Int × List (D192) × Unit → Option D109) (x2 : List (D192) × Int × List (D192) × Unit) : Option D109 :=
 (cond (decide (x2.2.1 < (((List.length x2.1) : Nat) : Int)))
 (gd (decide ((0 : Int) ≤ x2.2.1))
 (Option.bind x2.1[(Int.toNat x2.2.1)]? fun y4 =>
 (Option.bind (F175 y4) fun y5 =>
 (gd (decide ((0 : Int) ≤ x2.2.1))
 (gd (decide (x2.2.1 < (((List.length x2.2.2.1) : Nat) : Int)))
 (Option.bind x2.2.2.1[(Int.toNat x2.2.1)]? fun y6 =>
 (rec (x2.1, (IntKind.wrap IntKind.i64 (x2.2.1 + (1 : Int))), (List.set x2.2.2.1 (Int.toNat x2.2.1) y5.1), ()))))))))
 (e0_0 (x2.2.2.1, ())))
noncomputable def F156 (a0 : List (D192)) : Option D109 :=
 (gd (decide ((((List.length a0) : Nat) : Int) ≤ ((4294967296 : Nat) : Int)))
 (gd (decide ((((List.length a0) : Nat) : Int) ≤ (((Int.toNat (((List.length a0) : Nat) : Int)) : Nat) : Int)))
 (iter (F156_R3
 (fun y7 =>
 (some (y7.1, ())))) fuel (a0, (0 : Int), (List.replicate (Int.toNat (((List.length a0) : Nat) : Int)) ([], ())), ()))))
noncomputable def C156 : Fun := ⟨[(.ro (.slice Y192))], [((.slice Y192), .z)], fun z => F156 z.1⟩
noncomputable def E156 : Env := ⟨23, tyTab tys, oneTab ones, fnTab [(175, C175)], false, [], [(3, [0, 3, 4], []), (5, [0, 3, 4], []), (6, [3], []), (100000, [3], []), (100001, [0, 3, 4], []), (99999, [2], [])], none, [], []⟩
noncomputable def L156 : List (LoopS D109) := [⟨3, ⟨[(0, (.pv (.slice Y192))), (3, (.ref (.slice Y192) 56 [])), (4, (.pv (.int .i64)))], [(56, (.data false (.slice Y192) (.own .z)))]⟩, fun κ => F156_R3 (fun y => κ.exit 0 (SSh.mk' ⟨[(3, (.ref (.slice Y192) 56 []))], [(56, (.data false (.slice Y192) (.own .z)))]⟩ y))⟩]
theorem L156_3 : RoundEq E156 L156 L156[0] (nthLoop (codeOf Tryz.f156) 0) := fun κ N x => by kernel_rfl
theorem C156_ok : QuietOk Tryz.prog 156 C156 := tQ E156 L156 [nthLoop (codeOf Tryz.f156) 0] Tryz.func156 ty_ok (.cons C175_ok .nil) (.cons L156[0] (by kernel_rfl) L156_3 .nil)
noncomputable def F125 (a0 : D109) : Option (D109 × Unit) :=
 (Option.bind (F156 a0.1) fun y0 =>
 (some ((y0.1, ()), ())))
noncomputable def C125 : Fun := ⟨[(.ro Y109)], [(Y109, .z)], fun z => F125 z.1⟩
noncomputable def E125 : Env := ⟨9, tyTab tys, oneTab ones, fnTab [(156, C156)], false, [], [(99999, [2], [])], none, [], []⟩
noncomputable def L125 : List (LoopS (D109 × Unit)) := []
theorem C125_ok : QuietOk Tryz.prog 125 C125 := tQ E125 L125 [] Tryz.func125 ty_ok (.cons C156_ok .nil) .nil
end Go.V
