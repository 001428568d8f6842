/- What functions of the program compute, printed by a program of ours. No condition. -/
import Derived.Test.YtaghikdjjoaebaaGreatDoorWF0
namespace Go.V
open Go.Proofs
set_option maxRecDepth 100000
set_option linter.unusedVariables false
abbrev G180 : Type := (D83) → (Int) → Option (Bool × Unit)
noncomputable def H180 (g : G180) : Fun := ⟨[(.ro Y83), (.ro (.int .i64))], [(.bool, .z)], fun z => g z.1 z.2.1⟩
noncomputable def B180_R15 (g : G180) (e1_0 : Unit → Option (Bool × Unit)) (er_1 : Bool × Unit → Option (Bool × Unit)) (rec : Int × List (D83) × Int × Unit → Option (Bool × Unit)) (x7 : Int × List (D83) × Int × Unit) : Option (Bool × Unit) :=
 (cond (decide (x7.2.2.1 < (((List.length x7.2.1) : Nat) : Int)))
 (gd (decide ((0 : Int) ≤ x7.2.2.1))
 (Option.bind x7.2.1[(Int.toNat x7.2.2.1)]? fun y10 =>
 (Option.bind (g y10 (IntKind.wrap IntKind.i64 (x7.1 - (1 : Int)))) fun y11 =>
 (cond (!y11.1)
 (er_1 (false, ()))
 (rec (x7.1, x7.2.1, (IntKind.wrap IntKind.i64 (x7.2.2.1 + (1 : Int))), ()))))))
 (e1_0 (())))
noncomputable def B180_R25 (g : G180) (e3_0 : Unit → Option (Bool × Unit)) (er_1 : Bool × Unit → Option (Bool × Unit)) (rec : Int × List (D251) × Int × Unit → Option (Bool × Unit)) (x18 : Int × List (D251) × Int × Unit) : Option (Bool × Unit) :=
 (cond (decide (x18.2.2.1 < (((List.length x18.2.1) : Nat) : Int)))
 (let j29 : Int × List (D251) × Int × Unit → Option (Bool × Unit) := fun (y30 : Int × List (D251) × Int × Unit) =>
 (rec (y30.1, y30.2.1, (IntKind.wrap IntKind.i64 (y30.2.2.1 + (1 : Int))), ()))
 (gd (decide ((0 : Int) ≤ x18.2.2.1))
 (Option.bind x18.2.1[(Int.toNat x18.2.2.1)]? fun y21 =>
 (Option.bind (F88 y21.1) fun y22 =>
 (cond (!y22.1)
 (er_1 (false, ()))
 (cond (decide (x18.2.2.1 > (0 : Int)))
 (gd (decide ((0 : Int) ≤ (IntKind.wrap IntKind.i64 (x18.2.2.1 - (1 : Int)))))
 (Option.bind x18.2.1[(Int.toNat (IntKind.wrap IntKind.i64 (x18.2.2.1 - (1 : Int))))]? fun y23 =>
 (gd (decide ((0 : Int) ≤ x18.2.2.1))
 (Option.bind x18.2.1[(Int.toNat x18.2.2.1)]? fun y24 =>
 (cond (!(Op.bytesLess y23.1 y24.1))
 (er_1 (false, ()))
 (gd (decide ((0 : Int) ≤ x18.2.2.1))
 (Option.bind x18.2.1[(Int.toNat x18.2.2.1)]? fun y25 =>
 (Option.bind (g y25.2.1 (IntKind.wrap IntKind.i64 (x18.1 - (1 : Int)))) fun y26 =>
 (cond (!y26.1)
 (er_1 (false, ()))
 (j29 (x18.1, x18.2.1, x18.2.2.1, ())))))))))))
 (gd (decide ((0 : Int) ≤ x18.2.2.1))
 (Option.bind x18.2.1[(Int.toNat x18.2.2.1)]? fun y27 =>
 (Option.bind (g y27.2.1 (IntKind.wrap IntKind.i64 (x18.1 - (1 : Int)))) fun y28 =>
 (cond (!y28.1)
 (er_1 (false, ()))
 (j29 (x18.1, x18.2.1, x18.2.2.1, ()))))))))))))
 (e3_0 (())))
noncomputable def B180 (g : G180) (a0 : D83) (a1 : Int) : Option (Bool × Unit) :=
 (cond (a0.1 == (0 : Int))
 (cond (a0.2.1 == (0 : Int))
 (some ((a0.2.2.1 == []), ()))
 (some (false, ())))
 (cond (a0.1 == (1 : Int))
 (Option.bind (F30 a0.2.1 (0 : Int) (1 : Int)) fun y1 =>
 (cond y1.1
 (some ((a0.2.2.1 == []), ()))
 (some (false, ()))))
 (cond (a0.1 == (2 : Int))
 (Option.bind (F30 a0.2.1 (-(1000000000000 : Int)) (1000000000000 : Int)) fun y2 =>
 (cond y2.1
 (some ((a0.2.2.1 == []), ()))
 (some (false, ()))))
 (cond (a0.1 == (3 : Int))
 (cond (a0.2.1 == (0 : Int))
 (some ((decide ((((List.length a0.2.2.1) : Nat) : Int) ≤ (300 : Int))), ()))
 (some (false, ())))
 (cond (a0.1 == (4 : Int))
 (Option.bind (F196 a0.2.2.1) fun y3 =>
 (cond (a0.2.1 != (0 : Int))
 (some (false, ()))
 (cond (!y3.2.1)
 (some (false, ()))
 (cond (decide ((((List.length a0.2.2.1) : Nat) : Int) > (300 : Int)))
 (some (false, ()))
 (cond (a1 == (0 : Int))
 (some (false, ()))
 (iter (B180_R15 g
 (fun y12 =>
 (some (true, ())))
 (fun y13 =>
 (some (y13.1, ())))) fuel (a1, y3.1, (0 : Int), ())))))))
 (cond (a0.1 == (5 : Int))
 (Option.bind (F181 a0.2.2.1) fun y14 =>
 (cond (a0.2.1 != (0 : Int))
 (some (false, ()))
 (cond (!y14.2.1)
 (some (false, ()))
 (cond (decide ((((List.length a0.2.2.1) : Nat) : Int) > (300 : Int)))
 (some (false, ()))
 (cond (a1 == (0 : Int))
 (some (false, ()))
 (iter (B180_R25 g
 (fun y31 =>
 (some (true, ())))
 (fun y32 =>
 (some (y32.1, ())))) fuel (a1, y14.1, (0 : Int), ())))))))
 (some (false, ()))))))))
noncomputable def K180 (g : G180) : Fun := ⟨[(.ro Y83), (.ro (.int .i64))], [(.bool, .z)], fun z => B180 g z.1 z.2.1⟩
noncomputable def E180 (g : G180) : Env := ⟨160, tyTab tys, oneTab ones, fnTab [(30, C30), (88, C88), (180, (H180 g)), (181, C181), (196, C196)], false, [], [(14, [1, 5], []), (15, [1, 5, 7], []), (16, [1, 5, 7], []), (17, [1, 5, 7], []), (19, [], []), (24, [1, 8], []), (25, [1, 8, 10], []), (26, [1, 8, 10], []), (27, [1, 8, 10], []), (29, [], []), (30, [], []), (100000, [], []), (100001, [], []), (100002, [1, 5, 7], []), (100003, [], []), (100004, [1, 8, 10], []), (99999, [4], [])], none, []⟩
noncomputable def L180 (g : G180) : List (LoopS (Bool × Unit)) := [⟨15, ⟨[(1, (.pv (.int .i64))), (5, (.pv (.slice Y83))), (7, (.pv (.int .i64)))], []⟩, fun κ => B180_R15 g (fun y => κ.exit 1 (SSh.mk' ⟨[], []⟩ y)) (fun y => κ.ret (SSh.mk' ⟨[(4, (.pv .bool))], []⟩ y))⟩,
  ⟨25, ⟨[(1, (.pv (.int .i64))), (8, (.pv (.slice Y251))), (10, (.pv (.int .i64)))], []⟩, fun κ => B180_R25 g (fun y => κ.exit 3 (SSh.mk' ⟨[], []⟩ y)) (fun y => κ.ret (SSh.mk' ⟨[(4, (.pv .bool))], []⟩ y))⟩]
theorem L180_25 (g : G180) : RoundEq (E180 g) (L180 g) ((L180 g)[1]'(Nat.le_of_ble_eq_true rfl)) (nthLoop (codeOf Tryz.f180) 1) := fun κ N x => by kernel_rfl
theorem L180_15 (g : G180) : RoundEq (E180 g) (L180 g) ((L180 g)[0]'(Nat.le_of_ble_eq_true rfl)) (nthLoop (codeOf Tryz.f180) 0) := fun κ N x => by kernel_rfl
theorem K180_ok (g : G180) (hg : QuietOk Tryz.prog 180 (H180 g)) : QuietOk Tryz.prog 180 (K180 g) := tQ (E180 g) (L180 g) [nthLoop (codeOf Tryz.f180) 0, nthLoop (codeOf Tryz.f180) 1] Tryz.func180 ty_ok (.cons C30_ok (.cons C88_ok (.cons hg (.cons C181_ok (.cons C196_ok .nil))))) (.cons ((L180 g)[0]'(Nat.le_of_ble_eq_true rfl)) (by kernel_rfl) (L180_15 g) (.cons ((L180 g)[1]'(Nat.le_of_ble_eq_true rfl)) (by kernel_rfl) (L180_25 g) .nil))
noncomputable def S180 : Nat → G180
  | 0 => fun _ _ => none
  | k + 1 => B180 (S180 k)
noncomputable def F180 : G180 := S180 fuel
noncomputable def C180 : Fun := H180 F180
theorem C180_all : ∀ k, QuietOk Tryz.prog 180 (H180 (S180 k))
  | 0 => QuietOk.none Tryz.func180 (by rfl) (by decide) fun _ => rfl
  | k + 1 => K180_ok (S180 k) (C180_all k)
theorem C180_ok : QuietOk Tryz.prog 180 C180 := C180_all fuel
noncomputable def F159 (a0 : D83) : Option (Bool × Unit) :=
 (cond (decide ((((List.length a0.2.2.1) : Nat) : Int) ≤ (65536 : Int)))
 (Option.bind (F180 a0 (5 : Int)) fun y0 =>
 (some (y0.1, ())))
 (some (false, ())))
noncomputable def C159 : Fun := ⟨[(.ro Y83)], [(.bool, .z)], fun z => F159 z.1⟩
noncomputable def E159 : Env := ⟨11, tyTab tys, oneTab ones, fnTab [(180, C180)], false, [], [(99999, [2], [])], none, []⟩
noncomputable def L159 : List (LoopS (Bool × Unit)) := []
theorem C159_ok : QuietOk Tryz.prog 159 C159 := tQ E159 L159 [] Tryz.func159 ty_ok (.cons C180_ok .nil) .nil
noncomputable def F126 (a0 : D83) : Option (Bool × Unit) :=
 (Option.bind (F159 a0) fun y0 =>
 (cond y0.1
 (some ((a0.1 == (5 : Int)), ()))
 (some (false, ()))))
noncomputable def C126 : Fun := ⟨[(.ro Y83)], [(.bool, .z)], fun z => F126 z.1⟩
noncomputable def E126 : Env := ⟨10, tyTab tys, oneTab ones, fnTab [(159, C159)], false, [], [(99999, [2], [])], none, []⟩
noncomputable def L126 : List (LoopS (Bool × Unit)) := []
theorem C126_ok : QuietOk Tryz.prog 126 C126 := tQ E126 L126 [] Tryz.func126 ty_ok (.cons C159_ok .nil) .nil
noncomputable def F160_R3 (e0_0 : D83 × Unit → Option (D83 × Bool × Unit)) (er_1 : Bool × D83 × Unit → Option (D83 × Bool × Unit)) (rec : List UInt8 × List (D251) × Int × D83 × Unit → Option (D83 × Bool × Unit)) (x3 : List UInt8 × List (D251) × Int × D83 × Unit) : Option (D83 × Bool × Unit) :=
 (cond (decide (x3.2.2.1 < (((List.length x3.2.1) : Nat) : Int)))
 (gd (decide ((0 : Int) ≤ x3.2.2.1))
 (Option.bind x3.2.1[(Int.toNat x3.2.2.1)]? fun y6 =>
 (cond (y6.1 == x3.1)
 (gd (decide ((0 : Int) ≤ x3.2.2.1))
 (Option.bind x3.2.1[(Int.toNat x3.2.2.1)]? fun y7 =>
 (er_1 (true, y7.2.1, ()))))
 (rec (x3.1, x3.2.1, (IntKind.wrap IntKind.i64 (x3.2.2.1 + (1 : Int))), x3.2.2.2.1, ())))))
 (e0_0 (x3.2.2.2.1, ())))
noncomputable def F160 (a0 : D83) (a1 : List UInt8) : Option (D83 × Bool × Unit) :=
 (Option.bind (F181 a0.2.2.1) fun y0 =>
 (iter (F160_R3
 (fun y8 =>
 (some (((0 : Int), ((0 : Int), ([], ()))), (false, ()))))
 (fun y9 =>
 (some (y9.2.1, (y9.1, ()))))) fuel (a1, y0.1, (0 : Int), ((0 : Int), ((0 : Int), ([], ()))), ())))
noncomputable def C160 : Fun := ⟨[(.ro Y83), (.ro .str)], [(Y83, .z), (.bool, .z)], fun z => F160 z.1 z.2.1⟩
noncomputable def E160 : Env := ⟨34, tyTab tys, oneTab ones, fnTab [(181, C181)], false, [], [(3, [1, 4, 6, 8], []), (4, [1, 4, 6, 8], []), (5, [1, 4, 6, 8], []), (7, [4], []), (100000, [4], []), (100001, [1, 4, 6, 8], []), (99999, [4, 5], [])], none, []⟩
noncomputable def L160 : List (LoopS (D83 × Bool × Unit)) := [⟨3, ⟨[(1, (.pv .str)), (4, (.ptr 32 [])), (6, (.pv (.slice Y251))), (8, (.pv (.int .i64)))], [(32, (.data true Y83 .z))]⟩, fun κ => F160_R3 (fun y => κ.exit 0 (SSh.mk' ⟨[(4, (.ptr 32 []))], [(32, (.data true Y83 .z))]⟩ y)) (fun y => κ.ret (SSh.mk' ⟨[(4, (.ptr 32 [])), (5, (.pv .bool))], [(32, (.data true Y83 .z))]⟩ y))⟩]
theorem L160_3 : RoundEq E160 L160 L160[0] (nthLoop (codeOf Tryz.f160) 0) := fun κ N x => by kernel_rfl
theorem C160_ok : QuietOk Tryz.prog 160 C160 := tQ E160 L160 [nthLoop (codeOf Tryz.f160) 0] Tryz.func160 ty_ok (.cons C181_ok .nil) (.cons L160[0] (by kernel_rfl) L160_3 .nil)
noncomputable def F127 (a0 : D83) : Option (Int × Unit) :=
 (Option.bind (F160 a0 [(105 : UInt8), (100 : UInt8)]) fun y0 =>
 (cond (!y0.2.1)
 (some ((-(1 : Int)), ()))
 (cond (y0.1.1 != (2 : Int))
 (some ((-(1 : Int)), ()))
 (Option.bind (F30 y0.1.2.1 (0 : Int) (99 : Int)) fun y2 =>
 (cond (!y2.1)
 (some ((-(1 : Int)), ()))
 (some (y0.1.2.1, ())))))))
noncomputable def C127 : Fun := ⟨[(.ro Y83)], [((.int .i64), .z)], fun z => F127 z.1⟩
noncomputable def E127 : Env := ⟨25, tyTab tys, oneTab ones, fnTab [(30, C30), (160, C160)], false, [], [(4, [3], []), (99999, [2], [])], none, []⟩
noncomputable def L127 : List (LoopS (Int × Unit)) := []
theorem C127_ok : QuietOk Tryz.prog 127 C127 := tQ E127 L127 [] Tryz.func127 ty_ok (.cons C30_ok (.cons C160_ok .nil)) .nil
noncomputable def F90 (a0 : Int) (a1 : Bool) (a2 : D83) : Option (Bool × Unit) :=
 (cond a1
 (some (((decide (a2.1 = (0 : Int))) && ((decide (a2.2.1 = (0 : Int))) && ((a2.2.2.1 == []) && true))), ()))
 (Option.bind (F126 a2) fun y1 =>
 (cond y1.1
 (Option.bind (F127 a2) fun y2 =>
 (some ((y2.1 == a0), ())))
 (some (false, ())))))
noncomputable def C90 : Fun := ⟨[(.ro (.int .i64)), (.ro .bool), (.ro Y83)], [(.bool, .z)], fun z => F90 z.1 z.2.1 z.2.2.1⟩
noncomputable def E90 : Env := ⟨19, tyTab tys, oneTab ones, fnTab [(126, C126), (127, C127)], false, [], [(3, [0, 5], []), (99999, [6], [])], none, []⟩
noncomputable def L90 : List (LoopS (Bool × Unit)) := []
theorem C90_ok : QuietOk Tryz.prog 90 C90 := tQ E90 L90 [] Tryz.func90 ty_ok (.cons C126_ok (.cons C127_ok .nil)) .nil
noncomputable def F58_R9 (e2_0 : Int × D62 × Unit → Option (Bool × Unit)) (er_1 : Bool × Unit → Option (Bool × Unit)) (rec : Int × Int × D62 × Unit → Option (Bool × Unit)) (x11 : Int × Int × D62 × Unit) : Option (Bool × Unit) :=
 (cond (decide (x11.2.1 < x11.1))
 (gd (decide ((0 : Int) ≤ x11.2.1))
 (Option.bind x11.2.2.1.2.2.1[(Int.toNat x11.2.1)]? fun y14 =>
 (gd (decide ((0 : Int) ≤ x11.1))
 (Option.bind x11.2.2.1.2.2.1[(Int.toNat x11.1)]? fun y15 =>
 (cond (y14.1 == y15.1)
 (er_1 (false, ()))
 (rec (x11.1, (IntKind.wrap IntKind.i64 (x11.2.1 + (1 : Int))), x11.2.2.1, ())))))))
 (e2_0 (x11.1, x11.2.2.1, ())))
noncomputable def F58_R4 (e0_0 : D62 × Unit → Option (Bool × Unit)) (er_1 : Bool × Unit → Option (Bool × Unit)) (rec : Int × D62 × Unit → Option (Bool × Unit)) (x4 : Int × D62 × Unit) : Option (Bool × Unit) :=
 (cond (decide (x4.1 < (((List.length x4.2.1.2.2.1) : Nat) : Int)))
 (gd (decide ((0 : Int) ≤ x4.1))
 (Option.bind x4.2.1.2.2.1[(Int.toNat x4.1)]? fun y8 =>
 (Option.bind (F89 y8) fun y9 =>
 (cond (!y9.1)
 (er_1 (false, ()))
 (iter (F58_R9
 (fun y16 =>
 (rec ((IntKind.wrap IntKind.i64 (y16.1 + (1 : Int))), y16.2.1, ())))
 (fun y17 =>
 (er_1 (y17.1, ())))) fuel (x4.1, (0 : Int), x4.2.1, ()))))))
 (e0_0 (x4.2.1, ())))
noncomputable def F58_R20 (e6_0 : Int × D62 × Unit → Option (Bool × Unit)) (er_1 : Bool × Unit → Option (Bool × Unit)) (rec : Int × Int × D62 × D81 × Unit → Option (Bool × Unit)) (x34 : Int × Int × D62 × D81 × Unit) : Option (Bool × Unit) :=
 (cond (decide (x34.2.1 < (((List.length x34.2.2.2.1.2.1) : Nat) : Int)))
 (let j42 : Int × Int × D62 × D81 × Unit → Option (Bool × Unit) := fun (y43 : Int × Int × D62 × D81 × Unit) =>
 (rec (y43.1, (IntKind.wrap IntKind.i64 (y43.2.1 + (1 : Int))), y43.2.2.1, y43.2.2.2.1, ()))
 (gd (decide ((0 : Int) ≤ x34.2.1))
 (Option.bind x34.2.2.2.1.2.1[(Int.toNat x34.2.1)]? fun y37 =>
 (Option.bind (F30 y37.1 (1 : Int) (10000 : Int)) fun y38 =>
 (cond (!y38.1)
 (er_1 (false, ()))
 (cond (decide (x34.2.1 > (0 : Int)))
 (gd (decide ((0 : Int) ≤ (IntKind.wrap IntKind.i64 (x34.2.1 - (1 : Int)))))
 (Option.bind x34.2.2.2.1.2.1[(Int.toNat (IntKind.wrap IntKind.i64 (x34.2.1 - (1 : Int))))]? fun y39 =>
 (cond (decide (y39.1 ≥ y37.1))
 (er_1 (false, ()))
 (Option.bind (F90 x34.2.2.2.1.1 y37.2.1 y37.2.2.1) fun y40 =>
 (cond (!y40.1)
 (er_1 (false, ()))
 (j42 (x34.1, x34.2.1, x34.2.2.1, x34.2.2.2.1, ())))))))
 (Option.bind (F90 x34.2.2.2.1.1 y37.2.1 y37.2.2.1) fun y41 =>
 (cond (!y41.1)
 (er_1 (false, ()))
 (j42 (x34.1, x34.2.1, x34.2.2.1, x34.2.2.2.1, ()))))))))))
 (e6_0 (x34.1, x34.2.2.1, ())))
noncomputable def F58_R14 (e4_0 : Unit → Option (Bool × Unit)) (er_1 : Bool × Unit → Option (Bool × Unit)) (rec : Int × D62 × Unit → Option (Bool × Unit)) (x22 : Int × D62 × Unit) : Option (Bool × Unit) :=
 (cond (decide (x22.1 < (((List.length x22.2.1.2.1) : Nat) : Int)))
 (gd (decide ((0 : Int) ≤ x22.1))
 (Option.bind x22.2.1.2.1[(Int.toNat x22.1)]? fun y25 =>
 (let j31 : Int × D62 × D81 × Unit → Option (Bool × Unit) := fun (y32 : Int × D62 × D81 × Unit) =>
 (iter (F58_R20
 (fun y44 =>
 (rec ((IntKind.wrap IntKind.i64 (y44.1 + (1 : Int))), y44.2.1, ())))
 (fun y45 =>
 (er_1 (y45.1, ())))) fuel (y32.1, (0 : Int), y32.2.1, y32.2.2.1, ()))
 (Option.bind (F30 y25.1 (0 : Int) (19 : Int)) fun y27 =>
 (cond (!y27.1)
 (er_1 (false, ()))
 (cond (decide (x22.1 > (0 : Int)))
 (gd (decide ((0 : Int) ≤ (IntKind.wrap IntKind.i64 (x22.1 - (1 : Int)))))
 (Option.bind x22.2.1.2.1[(Int.toNat (IntKind.wrap IntKind.i64 (x22.1 - (1 : Int))))]? fun y28 =>
 (cond (decide (y28.1 ≥ y25.1))
 (er_1 (false, ()))
 (Option.bind (F30 (((List.length y25.2.1) : Nat) : Int) (1 : Int) (12 : Int)) fun y29 =>
 (cond (!y29.1)
 (er_1 (false, ()))
 (j31 (x22.1, x22.2.1, y25, ())))))))
 (Option.bind (F30 (((List.length y25.2.1) : Nat) : Int) (1 : Int) (12 : Int)) fun y30 =>
 (cond (!y30.1)
 (er_1 (false, ()))
 (j31 (x22.1, x22.2.1, y25, ()))))))))))
 (e4_0 (())))
noncomputable def F58 (a0 : D62) : Option (Bool × Unit) :=
 (Option.bind (F88 a0.1) fun y1 =>
 (cond (!y1.1)
 (some (false, ()))
 (cond (decide ((((List.length a0.2.1) : Nat) : Int) > (20 : Int)))
 (some (false, ()))
 (cond (decide ((((List.length a0.2.2.1) : Nat) : Int) > (3 : Int)))
 (some (false, ()))
 (iter (F58_R4
 (fun y18 =>
 (iter (F58_R14
 (fun y46 =>
 (some (true, ())))
 (fun y47 =>
 (some (y47.1, ())))) fuel ((0 : Int), y18.1, ())))
 (fun y19 =>
 (some (y19.1, ())))) fuel ((0 : Int), a0, ()))))))
noncomputable def C58 : Fun := ⟨[(.ro Y62)], [(.bool, .z)], fun z => F58 z.1⟩
noncomputable def E58 : Env := ⟨138, tyTab tys, oneTab ones, fnTab [(30, C30), (88, C88), (89, C89), (90, C90)], false, [], [(3, [1], []), (4, [1, 3], []), (5, [1, 3], []), (6, [1, 3], []), (8, [1, 3], []), (9, [1, 3, 4], []), (10, [1, 3, 4], []), (11, [1, 3, 4], []), (13, [1], []), (14, [1, 5], []), (15, [1, 5], []), (16, [1, 5], []), (19, [1, 5, 6], []), (20, [1, 5, 6, 7], []), (21, [1, 5, 6, 7], []), (22, [1, 5, 6, 7], []), (25, [], []), (100000, [1], []), (100001, [1, 3], []), (100002, [1, 3], []), (100003, [1, 3, 4], []), (100004, [], []), (100005, [1, 5], []), (100006, [1, 5], []), (100007, [1, 5, 6, 7], []), (99999, [2], [])], none, []⟩
noncomputable def L58 : List (LoopS (Bool × Unit)) := [⟨9, ⟨[(1, (.ptr 8 [])), (3, (.pv (.int .i64))), (4, (.pv (.int .i64)))], [(8, (.data true Y62 .z))]⟩, fun κ => F58_R9 (fun y => κ.exit 2 (SSh.mk' ⟨[(1, (.ptr 8 [])), (3, (.pv (.int .i64)))], [(8, (.data true Y62 .z))]⟩ y)) (fun y => κ.ret (SSh.mk' ⟨[(2, (.pv .bool))], []⟩ y))⟩,
  ⟨4, ⟨[(1, (.ptr 8 [])), (3, (.pv (.int .i64)))], [(8, (.data true Y62 .z))]⟩, fun κ => F58_R4 (fun y => κ.exit 0 (SSh.mk' ⟨[(1, (.ptr 8 []))], [(8, (.data true Y62 .z))]⟩ y)) (fun y => κ.ret (SSh.mk' ⟨[(2, (.pv .bool))], []⟩ y))⟩,
  ⟨20, ⟨[(1, (.ptr 8 [])), (5, (.pv (.int .i64))), (6, (.ptr 48 [])), (7, (.pv (.int .i64)))], [(8, (.data true Y62 .z)), (48, (.data true Y81 .z))]⟩, fun κ => F58_R20 (fun y => κ.exit 6 (SSh.mk' ⟨[(1, (.ptr 8 [])), (5, (.pv (.int .i64)))], [(8, (.data true Y62 .z))]⟩ y)) (fun y => κ.ret (SSh.mk' ⟨[(2, (.pv .bool))], []⟩ y))⟩,
  ⟨14, ⟨[(1, (.ptr 8 [])), (5, (.pv (.int .i64)))], [(8, (.data true Y62 .z))]⟩, fun κ => F58_R14 (fun y => κ.exit 4 (SSh.mk' ⟨[], []⟩ y)) (fun y => κ.ret (SSh.mk' ⟨[(2, (.pv .bool))], []⟩ y))⟩]
theorem L58_20 : RoundEq E58 L58 L58[2] (nthLoop (codeOf Tryz.f58) 3) := fun κ N x => by kernel_rfl
theorem L58_14 : RoundEq E58 L58 L58[3] (nthLoop (codeOf Tryz.f58) 2) := fun κ N x => by kernel_rfl
theorem L58_9 : RoundEq E58 L58 L58[0] (nthLoop (codeOf Tryz.f58) 1) := fun κ N x => by kernel_rfl
theorem L58_4 : RoundEq E58 L58 L58[1] (nthLoop (codeOf Tryz.f58) 0) := fun κ N x => by kernel_rfl
theorem C58_ok : QuietOk Tryz.prog 58 C58 := tQ E58 L58 [nthLoop (codeOf Tryz.f58) 0, nthLoop (codeOf Tryz.f58) 1, nthLoop (codeOf Tryz.f58) 2, nthLoop (codeOf Tryz.f58) 3] Tryz.func58 ty_ok (.cons C30_ok (.cons C88_ok (.cons C89_ok (.cons C90_ok .nil)))) (.cons L58[1] (by kernel_rfl) L58_4 (.cons L58[0] (by kernel_rfl) L58_9 (.cons L58[3] (by kernel_rfl) L58_14 (.cons L58[2] (by kernel_rfl) L58_20 .nil))))
noncomputable def F31_R2 (e0_0 : List (D62) × Unit → Option (Bool × Unit)) (er_1 : Bool × Unit → Option (Bool × Unit)) (rec : List (D62) × Int × Unit → Option (Bool × Unit)) (x2 : List (D62) × Int × Unit) : Option (Bool × Unit) :=
 (cond (decide (x2.2.1 < (((List.length x2.1) : Nat) : Int)))
 (let j9 : List (D62) × Int × Unit → Option (Bool × Unit) := fun (y10 : List (D62) × Int × Unit) =>
 (rec (y10.1, (IntKind.wrap IntKind.i64 (y10.2.1 + (1 : Int))), ()))
 (gd (decide ((0 : Int) ≤ x2.2.1))
 (Option.bind x2.1[(Int.toNat x2.2.1)]? fun y5 =>
 (Option.bind (F58 y5) fun y6 =>
 (cond (!y6.1)
 (er_1 (false, ()))
 (cond (decide (x2.2.1 > (0 : Int)))
 (gd (decide ((0 : Int) ≤ (IntKind.wrap IntKind.i64 (x2.2.1 - (1 : Int)))))
 (Option.bind x2.1[(Int.toNat (IntKind.wrap IntKind.i64 (x2.2.1 - (1 : Int))))]? fun y7 =>
 (gd (decide ((0 : Int) ≤ x2.2.1))
 (Option.bind x2.1[(Int.toNat x2.2.1)]? fun y8 =>
 (cond (!(Op.bytesLess y7.1 y8.1))
 (er_1 (false, ()))
 (j9 (x2.1, x2.2.1, ())))))))
 (j9 (x2.1, x2.2.1, ()))))))))
 (e0_0 (x2.1, ())))
noncomputable def F31 (a0 : List (D62)) : Option (Bool × Unit) :=
 (iter (F31_R2
 (fun y11 =>
 (some ((decide ((((List.length y11.1) : Nat) : Int) ≤ (3 : Int))), ())))
 (fun y12 =>
 (some (y12.1, ())))) fuel (a0, (0 : Int), ()))
noncomputable def C31 : Fun := ⟨[(.ro (.slice Y62))], [(.bool, .z)], fun z => F31 z.1⟩
noncomputable def E31 : Env := ⟨37, tyTab tys, oneTab ones, fnTab [(58, C58)], false, [], [(2, [0, 3], []), (3, [0, 3], []), (4, [0, 3], []), (6, [0], []), (100000, [0], []), (100001, [0, 3], []), (99999, [2], [])], none, []⟩
noncomputable def L31 : List (LoopS (Bool × Unit)) := [⟨2, ⟨[(0, (.pv (.slice Y62))), (3, (.pv (.int .i64)))], []⟩, fun κ => F31_R2 (fun y => κ.exit 0 (SSh.mk' ⟨[(0, (.pv (.slice Y62)))], []⟩ y)) (fun y => κ.ret (SSh.mk' ⟨[(2, (.pv .bool))], []⟩ y))⟩]
theorem L31_2 : RoundEq E31 L31 L31[0] (nthLoop (codeOf Tryz.f31) 0) := fun κ N x => by kernel_rfl
theorem C31_ok : QuietOk Tryz.prog 31 C31 := tQ E31 L31 [nthLoop (codeOf Tryz.f31) 0] Tryz.func31 ty_ok (.cons C58_ok .nil) (.cons L31[0] (by kernel_rfl) L31_2 .nil)
noncomputable def F129 (a0 : D203) : Option (Bool × Unit) :=
 (cond (decide ((((List.length a0.2.1) : Nat) : Int) > (65536 : Int)))
 (some (false, ()))
 (Option.bind (F125 a0.2.1) fun y1 =>
 (cond (!y1.1)
 (some (false, ()))
 (Option.bind (F159 a0.2.2.1) fun y2 =>
 (cond (!y2.1)
 (some (false, ()))
 (let j11 : Unit → Option (Bool × Unit) := fun (y12 : Unit) =>
 (some (false, ()))
 (cond (a0.1 == (1 : Int))
 (cond (a0.1 == (1 : Int))
 (some (true, ()))
 (cond (a0.1 == (7 : Int))
 (some ((a0.2.2.1.1 == (4 : Int)), ()))
 (cond (a0.1 == (8 : Int))
 (some ((a0.2.2.1.1 == (1 : Int)), ()))
 (cond (a0.1 == (9 : Int))
 (cond (a0.2.2.1.1 == (2 : Int))
 (Option.bind (F30 a0.2.2.1.2.1 (0 : Int) (5 : Int)) fun y5 =>
 (some (y5.1, ())))
 (some (false, ())))
 (cond (a0.1 == (10 : Int))
 (cond (a0.2.2.1.1 == (2 : Int))
 (some ((decide (a0.2.2.1.2.1 ≥ (0 : Int))), ()))
 (some (false, ())))
 (j11 (())))))))
 (cond (a0.1 == (2 : Int))
 (cond (a0.1 == (2 : Int))
 (some (true, ()))
 (cond (a0.1 == (7 : Int))
 (some ((a0.2.2.1.1 == (4 : Int)), ()))
 (cond (a0.1 == (8 : Int))
 (some ((a0.2.2.1.1 == (1 : Int)), ()))
 (cond (a0.1 == (9 : Int))
 (cond (a0.2.2.1.1 == (2 : Int))
 (Option.bind (F30 a0.2.2.1.2.1 (0 : Int) (5 : Int)) fun y6 =>
 (some (y6.1, ())))
 (some (false, ())))
 (cond (a0.1 == (10 : Int))
 (cond (a0.2.2.1.1 == (2 : Int))
 (some ((decide (a0.2.2.1.2.1 ≥ (0 : Int))), ()))
 (some (false, ())))
 (j11 (())))))))
 (cond (a0.1 == (3 : Int))
 (cond (a0.1 == (3 : Int))
 (some (true, ()))
 (cond (a0.1 == (7 : Int))
 (some ((a0.2.2.1.1 == (4 : Int)), ()))
 (cond (a0.1 == (8 : Int))
 (some ((a0.2.2.1.1 == (1 : Int)), ()))
 (cond (a0.1 == (9 : Int))
 (cond (a0.2.2.1.1 == (2 : Int))
 (Option.bind (F30 a0.2.2.1.2.1 (0 : Int) (5 : Int)) fun y7 =>
 (some (y7.1, ())))
 (some (false, ())))
 (cond (a0.1 == (10 : Int))
 (cond (a0.2.2.1.1 == (2 : Int))
 (some ((decide (a0.2.2.1.2.1 ≥ (0 : Int))), ()))
 (some (false, ())))
 (j11 (())))))))
 (cond (a0.1 == (4 : Int))
 (cond (a0.1 == (4 : Int))
 (some (true, ()))
 (cond (a0.1 == (7 : Int))
 (some ((a0.2.2.1.1 == (4 : Int)), ()))
 (cond (a0.1 == (8 : Int))
 (some ((a0.2.2.1.1 == (1 : Int)), ()))
 (cond (a0.1 == (9 : Int))
 (cond (a0.2.2.1.1 == (2 : Int))
 (Option.bind (F30 a0.2.2.1.2.1 (0 : Int) (5 : Int)) fun y8 =>
 (some (y8.1, ())))
 (some (false, ())))
 (cond (a0.1 == (10 : Int))
 (cond (a0.2.2.1.1 == (2 : Int))
 (some ((decide (a0.2.2.1.2.1 ≥ (0 : Int))), ()))
 (some (false, ())))
 (j11 (())))))))
 (cond (a0.1 == (5 : Int))
 (cond (a0.1 == (5 : Int))
 (some (true, ()))
 (cond (a0.1 == (7 : Int))
 (some ((a0.2.2.1.1 == (4 : Int)), ()))
 (cond (a0.1 == (8 : Int))
 (some ((a0.2.2.1.1 == (1 : Int)), ()))
 (cond (a0.1 == (9 : Int))
 (cond (a0.2.2.1.1 == (2 : Int))
 (Option.bind (F30 a0.2.2.1.2.1 (0 : Int) (5 : Int)) fun y9 =>
 (some (y9.1, ())))
 (some (false, ())))
 (cond (a0.1 == (10 : Int))
 (cond (a0.2.2.1.1 == (2 : Int))
 (some ((decide (a0.2.2.1.2.1 ≥ (0 : Int))), ()))
 (some (false, ())))
 (j11 (())))))))
 (cond (a0.1 == (6 : Int))
 (some (true, ()))
 (cond (a0.1 == (7 : Int))
 (some ((a0.2.2.1.1 == (4 : Int)), ()))
 (cond (a0.1 == (8 : Int))
 (some ((a0.2.2.1.1 == (1 : Int)), ()))
 (cond (a0.1 == (9 : Int))
 (cond (a0.2.2.1.1 == (2 : Int))
 (Option.bind (F30 a0.2.2.1.2.1 (0 : Int) (5 : Int)) fun y10 =>
 (some (y10.1, ())))
 (some (false, ())))
 (cond (a0.1 == (10 : Int))
 (cond (a0.2.2.1.1 == (2 : Int))
 (some ((decide (a0.2.2.1.2.1 ≥ (0 : Int))), ()))
 (some (false, ())))
 (j11 (()))))))))))))))))))
noncomputable def C129 : Fun := ⟨[(.ro Y203)], [(.bool, .z)], fun z => F129 z.1⟩
noncomputable def E129 : Env := ⟨64, tyTab tys, oneTab ones, fnTab [(30, C30), (125, C125), (159, C159)], false, [], [(3, [1], []), (19, [], []), (100000, [], []), (99999, [2], [])], none, []⟩
noncomputable def L129 : List (LoopS (Bool × Unit)) := []
theorem C129_ok : QuietOk Tryz.prog 129 C129 := tQ E129 L129 [] Tryz.func129 ty_ok (.cons C30_ok (.cons C125_ok (.cons C159_ok .nil))) .nil
noncomputable def F92_R9 (e2_0 : Int × D117 × Unit → Option (Bool × Unit)) (er_1 : Bool × Unit → Option (Bool × Unit)) (rec : Int × Int × D117 × Unit → Option (Bool × Unit)) (x10 : Int × Int × D117 × Unit) : Option (Bool × Unit) :=
 (gd (decide ((0 : Int) ≤ x10.1))
 (Option.bind x10.2.2.1.1[(Int.toNat x10.1)]? fun y12 =>
 (cond (decide (x10.2.1 < (((List.length y12.1) : Nat) : Int)))
 (gd (decide ((0 : Int) ≤ x10.1))
 (Option.bind x10.2.2.1.1[(Int.toNat x10.1)]? fun y14 =>
 (gd (decide ((0 : Int) ≤ x10.2.1))
 (Option.bind y14.1[(Int.toNat x10.2.1)]? fun y15 =>
 (Option.bind (F129 y15) fun y16 =>
 (cond (!y16.1)
 (er_1 (false, ()))
 (rec (x10.1, (IntKind.wrap IntKind.i64 (x10.2.1 + (1 : Int))), x10.2.2.1, ()))))))))
 (e2_0 (x10.1, x10.2.2.1, ())))))
noncomputable def F92_R4 (e0_0 : Unit → Option (Bool × Unit)) (er_1 : Bool × Unit → Option (Bool × Unit)) (rec : Int × D117 × Unit → Option (Bool × Unit)) (x4 : Int × D117 × Unit) : Option (Bool × Unit) :=
 (cond (decide (x4.1 < (((List.length x4.2.1.1) : Nat) : Int)))
 (gd (decide ((0 : Int) ≤ x4.1))
 (Option.bind x4.2.1.1[(Int.toNat x4.1)]? fun y8 =>
 (cond (decide ((((List.length y8.1) : Nat) : Int) > (4 : Int)))
 (er_1 (false, ()))
 (iter (F92_R9
 (fun y17 =>
 (rec ((IntKind.wrap IntKind.i64 (y17.1 + (1 : Int))), y17.2.1, ())))
 (fun y18 =>
 (er_1 (y18.1, ())))) fuel (x4.1, (0 : Int), x4.2.1, ())))))
 (e0_0 (())))
noncomputable def F92 (a0 : D117) : Option (Bool × Unit) :=
 (Option.bind (F30 (((List.length a0.1) : Nat) : Int) (1 : Int) (3 : Int)) fun y1 =>
 (cond (!y1.1)
 (some (false, ()))
 (iter (F92_R4
 (fun y19 =>
 (some (true, ())))
 (fun y20 =>
 (some (y20.1, ())))) fuel ((0 : Int), a0, ()))))
noncomputable def C92 : Fun := ⟨[(.ro Y117)], [(.bool, .z)], fun z => F92 z.1⟩
noncomputable def E92 : Env := ⟨47, tyTab tys, oneTab ones, fnTab [(30, C30), (129, C129)], false, [], [(3, [1], []), (4, [1, 3], []), (5, [1, 3], []), (6, [1, 3], []), (8, [1, 3], []), (9, [1, 3, 4], []), (10, [1, 3, 4], []), (11, [1, 3, 4], []), (13, [], []), (100000, [], []), (100001, [1, 3], []), (100002, [1, 3], []), (100003, [1, 3, 4], []), (99999, [2], [])], none, []⟩
noncomputable def L92 : List (LoopS (Bool × Unit)) := [⟨9, ⟨[(1, (.ptr 8 [])), (3, (.pv (.int .i64))), (4, (.pv (.int .i64)))], [(8, (.data true Y117 .z))]⟩, fun κ => F92_R9 (fun y => κ.exit 2 (SSh.mk' ⟨[(1, (.ptr 8 [])), (3, (.pv (.int .i64)))], [(8, (.data true Y117 .z))]⟩ y)) (fun y => κ.ret (SSh.mk' ⟨[(2, (.pv .bool))], []⟩ y))⟩,
  ⟨4, ⟨[(1, (.ptr 8 [])), (3, (.pv (.int .i64)))], [(8, (.data true Y117 .z))]⟩, fun κ => F92_R4 (fun y => κ.exit 0 (SSh.mk' ⟨[], []⟩ y)) (fun y => κ.ret (SSh.mk' ⟨[(2, (.pv .bool))], []⟩ y))⟩]
theorem L92_9 : RoundEq E92 L92 L92[0] (nthLoop (codeOf Tryz.f92) 1) := fun κ N x => by kernel_rfl
theorem L92_4 : RoundEq E92 L92 L92[1] (nthLoop (codeOf Tryz.f92) 0) := fun κ N x => by kernel_rfl
theorem C92_ok : QuietOk Tryz.prog 92 C92 := tQ E92 L92 [nthLoop (codeOf Tryz.f92) 0, nthLoop (codeOf Tryz.f92) 1] Tryz.func92 ty_ok (.cons C30_ok (.cons C129_ok .nil)) (.cons L92[1] (by kernel_rfl) L92_4 (.cons L92[0] (by kernel_rfl) L92_9 .nil))
noncomputable def F60 (a0 : D119) : Option (Bool × Unit) :=
 (Option.bind (F88 a0.1) fun y0 =>
 (cond y0.1
 (Option.bind (F92 a0.2.1) fun y1 =>
 (some (y1.1, ())))
 (some (false, ()))))
noncomputable def C60 : Fun := ⟨[(.ro Y119)], [(.bool, .z)], fun z => F60 z.1⟩
noncomputable def E60 : Env := ⟨11, tyTab tys, oneTab ones, fnTab [(88, C88), (92, C92)], false, [], [(99999, [2], [])], none, []⟩
noncomputable def L60 : List (LoopS (Bool × Unit)) := []
theorem C60_ok : QuietOk Tryz.prog 60 C60 := tQ E60 L60 [] Tryz.func60 ty_ok (.cons C88_ok (.cons C92_ok .nil)) .nil
noncomputable def F61 (a0 : D89) : Option (Bool × Unit) :=
 (Option.bind (F88 a0.1) fun y0 =>
 (cond y0.1
 (Option.bind (F30 a0.2.1 (0 : Int) (19 : Int)) fun y1 =>
 (cond y1.1
 (Option.bind (F90 a0.2.1 a0.2.2.1 a0.2.2.2.1) fun y2 =>
 (some (y2.1, ())))
 (some (false, ()))))
 (some (false, ()))))
noncomputable def C61 : Fun := ⟨[(.ro Y89)], [(.bool, .z)], fun z => F61 z.1⟩
noncomputable def E61 : Env := ⟨20, tyTab tys, oneTab ones, fnTab [(30, C30), (88, C88), (90, C90)], false, [], [(99999, [2], [])], none, []⟩
noncomputable def L61 : List (LoopS (Bool × Unit)) := []
theorem C61_ok : QuietOk Tryz.prog 61 C61 := tQ E61 L61 [] Tryz.func61 ty_ok (.cons C30_ok (.cons C88_ok (.cons C90_ok .nil))) .nil
noncomputable def F128 (a0 : D142) : Option (Bool × Unit) :=
 (Option.bind (F61 a0.1) fun y0 =>
 (cond y0.1
 (Option.bind (F90 a0.1.2.1 (!a0.2.2.1) a0.2.1) fun y1 =>
 (some (y1.1, ())))
 (some (false, ()))))
noncomputable def C128 : Fun := ⟨[(.ro Y142)], [(.bool, .z)], fun z => F128 z.1⟩
noncomputable def E128 : Env := ⟨17, tyTab tys, oneTab ones, fnTab [(61, C61), (90, C90)], false, [], [(99999, [2], [])], none, []⟩
noncomputable def L128 : List (LoopS (Bool × Unit)) := []
theorem C128_ok : QuietOk Tryz.prog 128 C128 := tQ E128 L128 [] Tryz.func128 ty_ok (.cons C61_ok (.cons C90_ok .nil)) .nil
noncomputable def F91_R2 (e0_0 : List (D119) × List (D142) × Unit → Option (Bool × Unit)) (er_1 : Bool × Unit → Option (Bool × Unit)) (rec : List (D119) × List (D142) × Int × Unit → Option (Bool × Unit)) (x2 : List (D119) × List (D142) × Int × Unit) : Option (Bool × Unit) :=
 (cond (decide (x2.2.2.1 < (((List.length x2.1) : Nat) : Int)))
 (gd (decide ((0 : Int) ≤ x2.2.2.1))
 (Option.bind x2.1[(Int.toNat x2.2.2.1)]? fun y5 =>
 (Option.bind (F60 y5) fun y6 =>
 (cond (!y6.1)
 (er_1 (false, ()))
 (rec (x2.1, x2.2.1, (IntKind.wrap IntKind.i64 (x2.2.2.1 + (1 : Int))), ()))))))
 (e0_0 (x2.1, x2.2.1, ())))
noncomputable def F91_R12 (e4_0 : List (D119) × List (D142) × Int × Unit → Option (Bool × Unit)) (er_1 : Bool × Unit → Option (Bool × Unit)) (rec : List (D119) × List (D142) × Int × Int × Unit → Option (Bool × Unit)) (x18 : List (D119) × List (D142) × Int × Int × Unit) : Option (Bool × Unit) :=
 (cond (decide (x18.2.2.2.1 < x18.2.2.1))
 (let j25 : List (D119) × List (D142) × Int × Int × Unit → Option (Bool × Unit) := fun (y26 : List (D119) × List (D142) × Int × Int × Unit) =>
 (rec (y26.1, y26.2.1, y26.2.2.1, (IntKind.wrap IntKind.i64 (y26.2.2.2.1 + (1 : Int))), ()))
 (gd (decide ((0 : Int) ≤ x18.2.2.2.1))
 (Option.bind x18.2.1[(Int.toNat x18.2.2.2.1)]? fun y21 =>
 (gd (decide ((0 : Int) ≤ x18.2.2.1))
 (Option.bind x18.2.1[(Int.toNat x18.2.2.1)]? fun y22 =>
 (cond (y21.1.1 == y22.1.1)
 (gd (decide ((0 : Int) ≤ x18.2.2.2.1))
 (Option.bind x18.2.1[(Int.toNat x18.2.2.2.1)]? fun y23 =>
 (gd (decide ((0 : Int) ≤ x18.2.2.1))
 (Option.bind x18.2.1[(Int.toNat x18.2.2.1)]? fun y24 =>
 (cond (y23.1.2.1 == y24.1.2.1)
 (er_1 (false, ()))
 (j25 (x18.1, x18.2.1, x18.2.2.1, x18.2.2.2.1, ())))))))
 (j25 (x18.1, x18.2.1, x18.2.2.1, x18.2.2.2.1, ()))))))))
 (e4_0 (x18.1, x18.2.1, x18.2.2.1, ())))
noncomputable def F91_R7 (e2_0 : List (D119) × List (D142) × Unit → Option (Bool × Unit)) (er_1 : Bool × Unit → Option (Bool × Unit)) (rec : List (D119) × List (D142) × Int × Unit → Option (Bool × Unit)) (x11 : List (D119) × List (D142) × Int × Unit) : Option (Bool × Unit) :=
 (cond (decide (x11.2.2.1 < (((List.length x11.2.1) : Nat) : Int)))
 (gd (decide ((0 : Int) ≤ x11.2.2.1))
 (Option.bind x11.2.1[(Int.toNat x11.2.2.1)]? fun y15 =>
 (Option.bind (F128 y15) fun y16 =>
 (cond (!y16.1)
 (er_1 (false, ()))
 (iter (F91_R12
 (fun y27 =>
 (rec (y27.1, y27.2.1, (IntKind.wrap IntKind.i64 (y27.2.2.1 + (1 : Int))), ())))
 (fun y28 =>
 (er_1 (y28.1, ())))) fuel (x11.1, x11.2.1, x11.2.2.1, (0 : Int), ()))))))
 (e2_0 (x11.1, x11.2.1, ())))
noncomputable def F91 (a0 : List (D119)) (a1 : List (D142)) : Option (Bool × Unit) :=
 (iter (F91_R2
 (fun y7 =>
 (iter (F91_R7
 (fun y29 =>
 (cond (decide ((((List.length y29.1) : Nat) : Int) ≤ (20 : Int)))
 (some ((decide ((((List.length y29.2.1) : Nat) : Int) ≤ (60 : Int))), ()))
 (some (false, ()))))
 (fun y30 =>
 (some (y30.1, ())))) fuel (y7.1, y7.2.1, (0 : Int), ())))
 (fun y8 =>
 (some (y8.1, ())))) fuel (a0, a1, (0 : Int), ()))
noncomputable def C91 : Fun := ⟨[(.ro (.slice Y119)), (.ro (.slice Y142))], [(.bool, .z)], fun z => F91 z.1 z.2.1⟩
noncomputable def E91 : Env := ⟨73, tyTab tys, oneTab ones, fnTab [(60, C60), (128, C128)], false, [], [(2, [0, 1, 5], []), (3, [0, 1, 5], []), (4, [0, 1, 5], []), (6, [0, 1], []), (7, [0, 1, 6], []), (8, [0, 1, 6], []), (9, [0, 1, 6], []), (11, [0, 1, 6], []), (12, [0, 1, 6, 7], []), (13, [0, 1, 6, 7], []), (14, [0, 1, 6, 7], []), (16, [0, 1], []), (100000, [0, 1], []), (100001, [0, 1, 5], []), (100002, [0, 1], []), (100003, [0, 1, 6], []), (100004, [0, 1, 6], []), (100005, [0, 1, 6, 7], []), (99999, [4], [])], none, []⟩
noncomputable def L91 : List (LoopS (Bool × Unit)) := [⟨2, ⟨[(0, (.pv (.slice Y119))), (1, (.pv (.slice Y142))), (5, (.pv (.int .i64)))], []⟩, fun κ => F91_R2 (fun y => κ.exit 0 (SSh.mk' ⟨[(0, (.pv (.slice Y119))), (1, (.pv (.slice Y142)))], []⟩ y)) (fun y => κ.ret (SSh.mk' ⟨[(4, (.pv .bool))], []⟩ y))⟩,
  ⟨12, ⟨[(0, (.pv (.slice Y119))), (1, (.pv (.slice Y142))), (6, (.pv (.int .i64))), (7, (.pv (.int .i64)))], []⟩, fun κ => F91_R12 (fun y => κ.exit 4 (SSh.mk' ⟨[(0, (.pv (.slice Y119))), (1, (.pv (.slice Y142))), (6, (.pv (.int .i64)))], []⟩ y)) (fun y => κ.ret (SSh.mk' ⟨[(4, (.pv .bool))], []⟩ y))⟩,
  ⟨7, ⟨[(0, (.pv (.slice Y119))), (1, (.pv (.slice Y142))), (6, (.pv (.int .i64)))], []⟩, fun κ => F91_R7 (fun y => κ.exit 2 (SSh.mk' ⟨[(0, (.pv (.slice Y119))), (1, (.pv (.slice Y142)))], []⟩ y)) (fun y => κ.ret (SSh.mk' ⟨[(4, (.pv .bool))], []⟩ y))⟩]
theorem L91_12 : RoundEq E91 L91 L91[1] (nthLoop (codeOf Tryz.f91) 2) := fun κ N x => by kernel_rfl
theorem L91_7 : RoundEq E91 L91 L91[2] (nthLoop (codeOf Tryz.f91) 1) := fun κ N x => by kernel_rfl
theorem L91_2 : RoundEq E91 L91 L91[0] (nthLoop (codeOf Tryz.f91) 0) := fun κ N x => by kernel_rfl
theorem C91_ok : QuietOk Tryz.prog 91 C91 := tQ E91 L91 [nthLoop (codeOf Tryz.f91) 0, nthLoop (codeOf Tryz.f91) 1, nthLoop (codeOf Tryz.f91) 2] Tryz.func91 ty_ok (.cons C60_ok (.cons C128_ok .nil)) (.cons L91[0] (by kernel_rfl) L91_2 (.cons L91[2] (by kernel_rfl) L91_7 (.cons L91[1] (by kernel_rfl) L91_12 .nil)))
noncomputable def F59 (a0 : D71) : Option (Bool × Unit) :=
 (Option.bind (F30 a0.1 (0 : Int) (10000 : Int)) fun y0 =>
 (cond y0.1
 (Option.bind (F30 a0.2.1 (IntKind.wrap IntKind.i64 (a0.1 + (1 : Int))) (10000 : Int)) fun y1 =>
 (cond y1.1
 (Option.bind (F91 a0.2.2.1 a0.2.2.2.1) fun y2 =>
 (some (y2.1, ())))
 (some (false, ()))))
 (some (false, ()))))
noncomputable def C59 : Fun := ⟨[(.ro Y71)], [(.bool, .z)], fun z => F59 z.1⟩
noncomputable def E59 : Env := ⟨21, tyTab tys, oneTab ones, fnTab [(30, C30), (91, C91)], false, [], [(99999, [2], [])], none, []⟩
noncomputable def L59 : List (LoopS (Bool × Unit)) := []
theorem C59_ok : QuietOk Tryz.prog 59 C59 := tQ E59 L59 [] Tryz.func59 ty_ok (.cons C30_ok (.cons C91_ok .nil)) .nil
noncomputable def F32_R2 (e0_0 : List (D71) × Unit → Option (Bool × Unit)) (er_1 : Bool × Unit → Option (Bool × Unit)) (rec : List (D71) × Int × Unit → Option (Bool × Unit)) (x2 : List (D71) × Int × Unit) : Option (Bool × Unit) :=
 (cond (decide (x2.2.1 < (((List.length x2.1) : Nat) : Int)))
 (let j13 : List (D71) × Int × Unit → Option (Bool × Unit) := fun (y14 : List (D71) × Int × Unit) =>
 (rec (y14.1, (IntKind.wrap IntKind.i64 (y14.2.1 + (1 : Int))), ()))
 (gd (decide ((0 : Int) ≤ x2.2.1))
 (Option.bind x2.1[(Int.toNat x2.2.1)]? fun y5 =>
 (Option.bind (F59 y5) fun y6 =>
 (cond (!y6.1)
 (er_1 (false, ()))
 (cond (decide (x2.2.1 > (0 : Int)))
 (gd (decide ((0 : Int) ≤ (IntKind.wrap IntKind.i64 (x2.2.1 - (1 : Int)))))
 (Option.bind x2.1[(Int.toNat (IntKind.wrap IntKind.i64 (x2.2.1 - (1 : Int))))]? fun y7 =>
 (gd (decide ((0 : Int) ≤ x2.2.1))
 (Option.bind x2.1[(Int.toNat x2.2.1)]? fun y8 =>
 (cond (decide (y7.2.1 ≥ y8.2.1))
 (er_1 (false, ()))
 (gd (decide ((0 : Int) ≤ x2.2.1))
 (Option.bind x2.1[(Int.toNat x2.2.1)]? fun y9 =>
 (cond y9.2.2.2.2.1
 (gd (decide ((0 : Int) ≤ x2.2.1))
 (Option.bind x2.1[(Int.toNat x2.2.1)]? fun y10 =>
 (cond y10.2.2.2.2.2.1
 (er_1 (false, ()))
 (j13 (x2.1, x2.2.1, ())))))
 (j13 (x2.1, x2.2.1, ()))))))))))
 (gd (decide ((0 : Int) ≤ x2.2.1))
 (Option.bind x2.1[(Int.toNat x2.2.1)]? fun y11 =>
 (cond y11.2.2.2.2.1
 (gd (decide ((0 : Int) ≤ x2.2.1))
 (Option.bind x2.1[(Int.toNat x2.2.1)]? fun y12 =>
 (cond y12.2.2.2.2.2.1
 (er_1 (false, ()))
 (j13 (x2.1, x2.2.1, ())))))
 (j13 (x2.1, x2.2.1, ())))))))))))
 (e0_0 (x2.1, ())))
noncomputable def F32 (a0 : List (D71)) : Option (Bool × Unit) :=
 (iter (F32_R2
 (fun y15 =>
 (some ((decide ((((List.length y15.1) : Nat) : Int) ≤ (30 : Int))), ())))
 (fun y16 =>
 (some (y16.1, ())))) fuel (a0, (0 : Int), ()))
noncomputable def C32 : Fun := ⟨[(.ro (.slice Y71))], [(.bool, .z)], fun z => F32 z.1⟩
noncomputable def E32 : Env := ⟨51, tyTab tys, oneTab ones, fnTab [(59, C59)], false, [], [(2, [0, 3], []), (3, [0, 3], []), (4, [0, 3], []), (6, [0], []), (100000, [0], []), (100001, [0, 3], []), (99999, [2], [])], none, []⟩
noncomputable def L32 : List (LoopS (Bool × Unit)) := [⟨2, ⟨[(0, (.pv (.slice Y71))), (3, (.pv (.int .i64)))], []⟩, fun κ => F32_R2 (fun y => κ.exit 0 (SSh.mk' ⟨[(0, (.pv (.slice Y71)))], []⟩ y)) (fun y => κ.ret (SSh.mk' ⟨[(2, (.pv .bool))], []⟩ y))⟩]
theorem L32_2 : RoundEq E32 L32 L32[0] (nthLoop (codeOf Tryz.f32) 0) := fun κ N x => by kernel_rfl
theorem C32_ok : QuietOk Tryz.prog 32 C32 := tQ E32 L32 [nthLoop (codeOf Tryz.f32) 0] Tryz.func32 ty_ok (.cons C59_ok .nil) (.cons L32[0] (by kernel_rfl) L32_2 .nil)
noncomputable def F62 (a0 : D89) (a1 : D89) : Option (Bool × Unit) :=
 (cond (Op.bytesLess a0.1 a1.1)
 (some (true, ()))
 (cond (a0.1 == a1.1)
 (some ((decide (a0.2.1 < a1.2.1)), ()))
 (some (false, ()))))
noncomputable def C62 : Fun := ⟨[(.ro Y89), (.ro Y89)], [(.bool, .z)], fun z => F62 z.1 z.2.1⟩
noncomputable def E62 : Env := ⟨24, tyTab tys, oneTab ones, fnTab [], false, [], [(99999, [4], [])], none, []⟩
noncomputable def L62 : List (LoopS (Bool × Unit)) := []
theorem C62_ok : QuietOk Tryz.prog 62 C62 := tQ E62 L62 [] Tryz.func62 ty_ok .nil .nil
noncomputable def F33_R4 (e0_0 : D48 × Unit → Option (Bool × Unit)) (er_1 : Bool × Unit → Option (Bool × Unit)) (rec : Int × D48 × Unit → Option (Bool × Unit)) (x5 : Int × D48 × Unit) : Option (Bool × Unit) :=
 (cond (decide (x5.1 < (((List.length x5.2.1.2.2.1) : Nat) : Int)))
 (gd (decide ((0 : Int) ≤ x5.1))
 (Option.bind x5.2.1.2.2.1[(Int.toNat x5.1)]? fun y8 =>
 (Option.bind (F60 y8) fun y9 =>
 (cond (!y9.1)
 (er_1 (false, ()))
 (rec ((IntKind.wrap IntKind.i64 (x5.1 + (1 : Int))), x5.2.1, ()))))))
 (e0_0 (x5.2.1, ())))
noncomputable def F33_R9 (e2_0 : Unit → Option (Bool × Unit)) (er_1 : Bool × Unit → Option (Bool × Unit)) (rec : Int × D48 × Unit → Option (Bool × Unit)) (x14 : Int × D48 × Unit) : Option (Bool × Unit) :=
 (cond (decide (x14.1 < (((List.length x14.2.1.2.2.2.1) : Nat) : Int)))
 (let j22 : Int × D48 × Unit → Option (Bool × Unit) := fun (y23 : Int × D48 × Unit) =>
 (rec ((IntKind.wrap IntKind.i64 (y23.1 + (1 : Int))), y23.2.1, ()))
 (gd (decide ((0 : Int) ≤ x14.1))
 (Option.bind x14.2.1.2.2.2.1[(Int.toNat x14.1)]? fun y17 =>
 (Option.bind (F61 y17) fun y18 =>
 (cond (!y18.1)
 (er_1 (false, ()))
 (cond (decide (x14.1 > (0 : Int)))
 (gd (decide ((0 : Int) ≤ (IntKind.wrap IntKind.i64 (x14.1 - (1 : Int)))))
 (Option.bind x14.2.1.2.2.2.1[(Int.toNat (IntKind.wrap IntKind.i64 (x14.1 - (1 : Int))))]? fun y19 =>
 (gd (decide ((0 : Int) ≤ x14.1))
 (Option.bind x14.2.1.2.2.2.1[(Int.toNat x14.1)]? fun y20 =>
 (Option.bind (F62 y19 y20) fun y21 =>
 (cond (!y21.1)
 (er_1 (false, ()))
 (j22 (x14.1, x14.2.1, ()))))))))
 (j22 (x14.1, x14.2.1, ()))))))))
 (e2_0 (())))
noncomputable def F33 (a0 : D48) : Option (Bool × Unit) :=
 (Option.bind (F30 a0.1 (0 : Int) (3 : Int)) fun y1 =>
 (cond (!y1.1)
 (some (false, ()))
 (Option.bind (F30 a0.2.1 (0 : Int) (10000 : Int)) fun y2 =>
 (cond (!y2.1)
 (some (false, ()))
 (cond (decide ((((List.length a0.2.2.1) : Nat) : Int) > (20 : Int)))
 (some (false, ()))
 (cond (decide ((((List.length a0.2.2.2.1) : Nat) : Int) > (60 : Int)))
 (some (false, ()))
 (iter (F33_R4
 (fun y10 =>
 (iter (F33_R9
 (fun y24 =>
 (some (true, ())))
 (fun y25 =>
 (some (y25.1, ())))) fuel ((0 : Int), y10.1, ())))
 (fun y11 =>
 (some (y11.1, ())))) fuel ((0 : Int), a0, ()))))))))
noncomputable def C33 : Fun := ⟨[(.ro Y48)], [(.bool, .z)], fun z => F33 z.1⟩
noncomputable def E33 : Env := ⟨74, tyTab tys, oneTab ones, fnTab [(30, C30), (60, C60), (61, C61), (62, C62)], false, [], [(3, [1], []), (4, [1, 3], []), (5, [1, 3], []), (6, [1, 3], []), (8, [1], []), (9, [1, 4], []), (10, [1, 4], []), (11, [1, 4], []), (13, [], []), (100000, [1], []), (100001, [1, 3], []), (100002, [], []), (100003, [1, 4], []), (99999, [2], [])], none, []⟩
noncomputable def L33 : List (LoopS (Bool × Unit)) := [⟨4, ⟨[(1, (.ptr 8 [])), (3, (.pv (.int .i64)))], [(8, (.data true Y48 .z))]⟩, fun κ => F33_R4 (fun y => κ.exit 0 (SSh.mk' ⟨[(1, (.ptr 8 []))], [(8, (.data true Y48 .z))]⟩ y)) (fun y => κ.ret (SSh.mk' ⟨[(2, (.pv .bool))], []⟩ y))⟩,
  ⟨9, ⟨[(1, (.ptr 8 [])), (4, (.pv (.int .i64)))], [(8, (.data true Y48 .z))]⟩, fun κ => F33_R9 (fun y => κ.exit 2 (SSh.mk' ⟨[], []⟩ y)) (fun y => κ.ret (SSh.mk' ⟨[(2, (.pv .bool))], []⟩ y))⟩]
theorem L33_9 : RoundEq E33 L33 L33[1] (nthLoop (codeOf Tryz.f33) 1) := fun κ N x => by kernel_rfl
theorem L33_4 : RoundEq E33 L33 L33[0] (nthLoop (codeOf Tryz.f33) 0) := fun κ N x => by kernel_rfl
theorem C33_ok : QuietOk Tryz.prog 33 C33 := tQ E33 L33 [nthLoop (codeOf Tryz.f33) 0, nthLoop (codeOf Tryz.f33) 1] Tryz.func33 ty_ok (.cons C30_ok (.cons C60_ok (.cons C61_ok (.cons C62_ok .nil)))) (.cons L33[0] (by kernel_rfl) L33_4 (.cons L33[1] (by kernel_rfl) L33_9 .nil))
noncomputable def F34_R2 (e0_0 : Unit → Option (Int × Unit)) (er_1 : Int × Unit → Option (Int × Unit)) (rec : List (D62) × List UInt8 × Int × Unit → Option (Int × Unit)) (x2 : List (D62) × List UInt8 × Int × Unit) : Option (Int × Unit) :=
 (cond (decide (x2.2.2.1 < (((List.length x2.1) : Nat) : Int)))
 (gd (decide ((0 : Int) ≤ x2.2.2.1))
 (Option.bind x2.1[(Int.toNat x2.2.2.1)]? fun y5 =>
 (cond (y5.1 == x2.2.1)
 (er_1 (x2.2.2.1, ()))
 (rec (x2.1, x2.2.1, (IntKind.wrap IntKind.i64 (x2.2.2.1 + (1 : Int))), ())))))
 (e0_0 (())))
noncomputable def F34 (a0 : List (D62)) (a1 : List UInt8) : Option (Int × Unit) :=
 (iter (F34_R2
 (fun y6 =>
 (some ((-(1 : Int)), ())))
 (fun y7 =>
 (some (y7.1, ())))) fuel (a0, a1, (0 : Int), ()))
noncomputable def C34 : Fun := ⟨[(.ro (.slice Y62)), (.ro .str)], [((.int .i64), .z)], fun z => F34 z.1 z.2.1⟩
noncomputable def E34 : Env := ⟨20, tyTab tys, oneTab ones, fnTab [], false, [], [(2, [0, 1, 5], []), (3, [0, 1, 5], []), (4, [0, 1, 5], []), (6, [], []), (100000, [], []), (100001, [0, 1, 5], []), (99999, [4], [])], none, []⟩
noncomputable def L34 : List (LoopS (Int × Unit)) := [⟨2, ⟨[(0, (.pv (.slice Y62))), (1, (.pv .str)), (5, (.pv (.int .i64)))], []⟩, fun κ => F34_R2 (fun y => κ.exit 0 (SSh.mk' ⟨[], []⟩ y)) (fun y => κ.ret (SSh.mk' ⟨[(4, (.pv (.int .i64)))], []⟩ y))⟩]
theorem L34_2 : RoundEq E34 L34 L34[0] (nthLoop (codeOf Tryz.f34) 0) := fun κ N x => by kernel_rfl
theorem C34_ok : QuietOk Tryz.prog 34 C34 := tQ E34 L34 [nthLoop (codeOf Tryz.f34) 0] Tryz.func34 ty_ok .nil (.cons L34[0] (by kernel_rfl) L34_2 .nil)
noncomputable def F16_R7 (e2_0 : Int × D25 × Unit → Option (Bool × Unit)) (er_1 : Bool × Unit → Option (Bool × Unit)) (rec : Int × Int × D25 × Unit → Option (Bool × Unit)) (x10 : Int × Int × D25 × Unit) : Option (Bool × Unit) :=
 (gd (decide ((0 : Int) ≤ x10.1))
 (Option.bind x10.2.2.1.1[(Int.toNat x10.1)]? fun y12 =>
 (cond (decide (x10.2.1 < (((List.length y12.2.1) : Nat) : Int)))
 (gd (decide ((0 : Int) ≤ x10.1))
 (Option.bind x10.2.2.1.1[(Int.toNat x10.1)]? fun y14 =>
 (gd (decide ((0 : Int) ≤ x10.2.1))
 (Option.bind y14.2.1[(Int.toNat x10.2.1)]? fun y15 =>
 (gd (decide ((0 : Int) ≤ (IntKind.wrap IntKind.i64 ((((List.length y15.2.1) : Nat) : Int) - (1 : Int)))))
 (Option.bind y15.2.1[(Int.toNat (IntKind.wrap IntKind.i64 ((((List.length y15.2.1) : Nat) : Int) - (1 : Int))))]? fun y16 =>
 (cond (decide (y16.1 > x10.2.2.1.2.2.2.1))
 (er_1 (false, ()))
 (rec (x10.1, (IntKind.wrap IntKind.i64 (x10.2.1 + (1 : Int))), x10.2.2.1, ())))))))))
 (e2_0 (x10.1, x10.2.2.1, ())))))
noncomputable def F16_R4 (e0_0 : D25 × Unit → Option (Bool × Unit)) (er_1 : Bool × Unit → Option (Bool × Unit)) (rec : Int × D25 × Unit → Option (Bool × Unit)) (x6 : Int × D25 × Unit) : Option (Bool × Unit) :=
 (cond (decide (x6.1 < (((List.length x6.2.1.1) : Nat) : Int)))
 (iter (F16_R7
 (fun y17 =>
 (rec ((IntKind.wrap IntKind.i64 (y17.1 + (1 : Int))), y17.2.1, ())))
 (fun y18 =>
 (er_1 (y18.1, ())))) fuel (x6.1, (0 : Int), x6.2.1, ()))
 (e0_0 (x6.2.1, ())))
noncomputable def F16_R18 (e6_0 : Int × D25 × Unit → Option (Bool × Unit)) (er_1 : Bool × Unit → Option (Bool × Unit)) (rec : Int × Int × D25 × Unit → Option (Bool × Unit)) (x35 : Int × Int × D25 × Unit) : Option (Bool × Unit) :=
 (gd (decide ((0 : Int) ≤ x35.1))
 (Option.bind x35.2.2.1.2.1[(Int.toNat x35.1)]? fun y37 =>
 (cond (decide (x35.2.1 < (((List.length y37.2.2.2.1) : Nat) : Int)))
 (gd (decide ((0 : Int) ≤ x35.1))
 (Option.bind x35.2.2.1.2.1[(Int.toNat x35.1)]? fun y39 =>
 (gd (decide ((0 : Int) ≤ x35.2.1))
 (Option.bind y39.2.2.2.1[(Int.toNat x35.2.1)]? fun y40 =>
 (Option.bind (F34 x35.2.2.1.1 y40.1) fun y41 =>
 (cond (decide (y41.1 < (0 : Int)))
 (er_1 (false, ()))
 (rec (x35.1, (IntKind.wrap IntKind.i64 (x35.2.1 + (1 : Int))), x35.2.2.1, ()))))))))
 (e6_0 (x35.1, x35.2.2.1, ())))))
noncomputable def F16_R13 (e4_0 : D25 × Unit → Option (Bool × Unit)) (er_1 : Bool × Unit → Option (Bool × Unit)) (rec : Int × D25 × Unit → Option (Bool × Unit)) (x23 : Int × D25 × Unit) : Option (Bool × Unit) :=
 (cond (decide (x23.1 < (((List.length x23.2.1.2.1) : Nat) : Int)))
 (let j32 : Int × D25 × Unit → Option (Bool × Unit) := fun (y33 : Int × D25 × Unit) =>
 (iter (F16_R18
 (fun y42 =>
 (rec ((IntKind.wrap IntKind.i64 (y42.1 + (1 : Int))), y42.2.1, ())))
 (fun y43 =>
 (er_1 (y43.1, ())))) fuel (y33.1, (0 : Int), y33.2.1, ()))
 (gd (decide ((0 : Int) ≤ x23.1))
 (Option.bind x23.2.1.2.1[(Int.toNat x23.1)]? fun y27 =>
 (Option.bind (F33 y27) fun y28 =>
 (cond (!y28.1)
 (er_1 (false, ()))
 (gd (decide ((0 : Int) ≤ x23.1))
 (Option.bind x23.2.1.2.1[(Int.toNat x23.1)]? fun y29 =>
 (cond (decide (y29.2.1 > x23.2.1.2.2.2.1))
 (er_1 (false, ()))
 (cond (decide (x23.1 > (0 : Int)))
 (gd (decide ((0 : Int) ≤ (IntKind.wrap IntKind.i64 (x23.1 - (1 : Int)))))
 (Option.bind x23.2.1.2.1[(Int.toNat (IntKind.wrap IntKind.i64 (x23.1 - (1 : Int))))]? fun y30 =>
 (gd (decide ((0 : Int) ≤ x23.1))
 (Option.bind x23.2.1.2.1[(Int.toNat x23.1)]? fun y31 =>
 (cond (decide (y30.1 ≥ y31.1))
 (er_1 (false, ()))
 (j32 (x23.1, x23.2.1, ())))))))
 (j32 (x23.1, x23.2.1, ())))))))))))
 (e4_0 (x23.2.1, ())))
noncomputable def F16 (a0 : D25) : Option (Bool × Unit) :=
 (Option.bind (F30 a0.2.2.2.1 (0 : Int) (10000 : Int)) fun y1 =>
 (cond (!y1.1)
 (some (false, ()))
 (cond ((((List.length a0.1) : Nat) : Int) == (0 : Int))
 (some (false, ()))
 (Option.bind (F31 a0.1) fun y2 =>
 (cond (!y2.1)
 (some (false, ()))
 (cond (decide ((((List.length a0.2.1) : Nat) : Int) > (4 : Int)))
 (some (false, ()))
 (Option.bind (F32 a0.2.2.1) fun y3 =>
 (cond (!y3.1)
 (some (false, ()))
 (iter (F16_R4
 (fun y19 =>
 (iter (F16_R13
 (fun y44 =>
 (cond ((((List.length y44.1.2.2.1) : Nat) : Int) == (0 : Int))
 (some (true, ()))
 (gd (decide ((0 : Int) ≤ (IntKind.wrap IntKind.i64 ((((List.length y44.1.2.2.1) : Nat) : Int) - (1 : Int)))))
 (Option.bind y44.1.2.2.1[(Int.toNat (IntKind.wrap IntKind.i64 ((((List.length y44.1.2.2.1) : Nat) : Int) - (1 : Int))))]? fun y46 =>
 (some ((decide (y46.2.1 ≤ y44.1.2.2.2.1)), ()))))))
 (fun y45 =>
 (some (y45.1, ())))) fuel ((0 : Int), y19.1, ())))
 (fun y20 =>
 (some (y20.1, ())))) fuel ((0 : Int), a0, ()))))))))))
noncomputable def C16 : Fun := ⟨[(.ro Y25)], [(.bool, .z)], fun z => F16 z.1⟩
noncomputable def E16 : Env := ⟨162, tyTab tys, oneTab ones, fnTab [(30, C30), (31, C31), (32, C32), (33, C33), (34, C34)], false, [], [(3, [1], []), (4, [1, 3], []), (5, [1, 3], []), (6, [1, 3], []), (7, [1, 3, 4], []), (8, [1, 3, 4], []), (9, [1, 3, 4], []), (12, [1], []), (13, [1, 6], []), (14, [1, 6], []), (15, [1, 6], []), (17, [1, 6], []), (18, [1, 6, 7], []), (19, [1, 6, 7], []), (20, [1, 6, 7], []), (22, [1], []), (100000, [1], []), (100001, [1, 3], []), (100002, [1, 3], []), (100003, [1, 3, 4], []), (100004, [1], []), (100005, [1, 6], []), (100006, [1, 6], []), (100007, [1, 6, 7], []), (99999, [2], [])], none, []⟩
noncomputable def L16 : List (LoopS (Bool × Unit)) := [⟨7, ⟨[(1, (.ptr 8 [])), (3, (.pv (.int .i64))), (4, (.pv (.int .i64)))], [(8, (.data true Y25 .z))]⟩, fun κ => F16_R7 (fun y => κ.exit 2 (SSh.mk' ⟨[(1, (.ptr 8 [])), (3, (.pv (.int .i64)))], [(8, (.data true Y25 .z))]⟩ y)) (fun y => κ.ret (SSh.mk' ⟨[(2, (.pv .bool))], []⟩ y))⟩,
  ⟨4, ⟨[(1, (.ptr 8 [])), (3, (.pv (.int .i64)))], [(8, (.data true Y25 .z))]⟩, fun κ => F16_R4 (fun y => κ.exit 0 (SSh.mk' ⟨[(1, (.ptr 8 []))], [(8, (.data true Y25 .z))]⟩ y)) (fun y => κ.ret (SSh.mk' ⟨[(2, (.pv .bool))], []⟩ y))⟩,
  ⟨18, ⟨[(1, (.ptr 8 [])), (6, (.pv (.int .i64))), (7, (.pv (.int .i64)))], [(8, (.data true Y25 .z))]⟩, fun κ => F16_R18 (fun y => κ.exit 6 (SSh.mk' ⟨[(1, (.ptr 8 [])), (6, (.pv (.int .i64)))], [(8, (.data true Y25 .z))]⟩ y)) (fun y => κ.ret (SSh.mk' ⟨[(2, (.pv .bool))], []⟩ y))⟩,
  ⟨13, ⟨[(1, (.ptr 8 [])), (6, (.pv (.int .i64)))], [(8, (.data true Y25 .z))]⟩, fun κ => F16_R13 (fun y => κ.exit 4 (SSh.mk' ⟨[(1, (.ptr 8 []))], [(8, (.data true Y25 .z))]⟩ y)) (fun y => κ.ret (SSh.mk' ⟨[(2, (.pv .bool))], []⟩ y))⟩]
theorem L16_18 : RoundEq E16 L16 L16[2] (nthLoop (codeOf Tryz.f16) 3) := fun κ N x => by kernel_rfl
theorem L16_13 : RoundEq E16 L16 L16[3] (nthLoop (codeOf Tryz.f16) 2) := fun κ N x => by kernel_rfl
theorem L16_7 : RoundEq E16 L16 L16[0] (nthLoop (codeOf Tryz.f16) 1) := fun κ N x => by kernel_rfl
theorem L16_4 : RoundEq E16 L16 L16[1] (nthLoop (codeOf Tryz.f16) 0) := fun κ N x => by kernel_rfl
theorem C16_ok : QuietOk Tryz.prog 16 C16 := tQ E16 L16 [nthLoop (codeOf Tryz.f16) 0, nthLoop (codeOf Tryz.f16) 1, nthLoop (codeOf Tryz.f16) 2, nthLoop (codeOf Tryz.f16) 3] Tryz.func16 ty_ok (.cons C30_ok (.cons C31_ok (.cons C32_ok (.cons C33_ok (.cons C34_ok .nil))))) (.cons L16[1] (by kernel_rfl) L16_4 (.cons L16[0] (by kernel_rfl) L16_7 (.cons L16[3] (by kernel_rfl) L16_13 (.cons L16[2] (by kernel_rfl) L16_18 .nil))))
noncomputable def F5_R5 (e0_0 : List (Int) × Unit → Option (List (Int) × Int × Unit)) (rec : Int × D25 × List (Int) × Unit → Option (List (Int) × Int × Unit)) (x4 : Int × D25 × List (Int) × Unit) : Option (List (Int) × Int × Unit) :=
 (cond (decide (x4.1 < (((List.length x4.2.1.2.1) : Nat) : Int)))
 (gd (decide ((0 : Int) ≤ x4.1))
 (Option.bind x4.2.1.2.1[(Int.toNat x4.1)]? fun y6 =>
 (gd (decide (((List.length x4.2.2.1) + (List.length [y6.1])) ≤ lim))
 (rec ((IntKind.wrap IntKind.i64 (x4.1 + (1 : Int))), x4.2.1, (x4.2.2.1 ++ [y6.1]), ())))))
 (e0_0 (x4.2.2.1, ())))
noncomputable def F5 (a0 : D25) : Option (List (Int) × Int × Unit) :=
 (Option.bind (F16 a0) fun y1 =>
 (cond (!y1.1)
 (some ([], ((1 : Int), ())))
 (iter (F5_R5
 (fun y7 =>
 (some (y7.1, ((0 : Int), ()))))) fuel ((0 : Int), a0, [], ()))))
noncomputable def C5 : Fun := ⟨[(.ro Y25)], [((.slice (.int .i64)), (.own .z)), ((.int .i64), .z)], fun z => F5 z.1⟩
noncomputable def E5 : Env := ⟨28, tyTab tys, oneTab ones, fnTab [(16, C16)], false, [], [(3, [1], []), (5, [1, 4, 5], []), (7, [1, 4, 5], []), (8, [4], []), (100000, [4], []), (100001, [1, 4, 5], []), (99999, [2, 3], [])], none, []⟩
noncomputable def L5 : List (LoopS (List (Int) × Int × Unit)) := [⟨5, ⟨[(1, (.ptr 8 [])), (4, (.ref (.slice (.int .i64)) 80 [])), (5, (.pv (.int .i64)))], [(8, (.data true Y25 .z)), (80, (.data false (.slice (.int .i64)) (.own .z)))]⟩, fun κ => F5_R5 (fun y => κ.exit 0 (SSh.mk' ⟨[(4, (.ref (.slice (.int .i64)) 80 []))], [(80, (.data false (.slice (.int .i64)) (.own .z)))]⟩ y))⟩]
theorem L5_5 : RoundEq E5 L5 L5[0] (nthLoop (codeOf Tryz.f5) 0) := fun κ N x => by kernel_rfl
theorem C5_ok : FreshOk Tryz.prog 5 C5 := tF E5 L5 [nthLoop (codeOf Tryz.f5) 0] Tryz.func5 ty_ok (.cons C16_ok .nil) (.cons L5[0] (by kernel_rfl) L5_5 .nil)
noncomputable def F133 (a0 : D83) : Option (D83 × Unit) :=
 (some ((a0.1, (a0.2.1, (a0.2.2.1, ()))), ()))
noncomputable def C133 : Fun := ⟨[(.ro Y83)], [(Y83, .z)], fun z => F133 z.1⟩
noncomputable def E133 : Env := ⟨14, tyTab tys, oneTab ones, fnTab [], true, [], [(99999, [2], [])], none, []⟩
noncomputable def L133 : List (LoopS (D83 × Unit)) := []
theorem C133_ok : QuietOk Tryz.prog 133 C133 := tQ E133 L133 [] Tryz.func133 ty_ok .nil .nil
noncomputable def F161 (a0 : D85) : Option (D85 × Unit) :=
 (Option.bind (F133 a0.2.2.1) fun y0 =>
 (some ((a0.1, (a0.2.1, (y0.1, ()))), ())))
noncomputable def C161 : Fun := ⟨[(.ro Y85)], [(Y85, .z)], fun z => F161 z.1⟩
noncomputable def E161 : Env := ⟨15, tyTab tys, oneTab ones, fnTab [(133, C133)], true, [], [(99999, [2], [])], none, []⟩
noncomputable def L161 : List (LoopS (D85 × Unit)) := []
theorem C161_ok : QuietOk Tryz.prog 161 C161 := tQ E161 L161 [] Tryz.func161 ty_ok (.cons C133_ok .nil) .nil
noncomputable def F130_R3 (e0_0 : List (D85) × Unit → Option (List (D85) × Unit)) (rec : List (D85) × Int × List (D85) × Unit → Option (List (D85) × Unit)) (x2 : List (D85) × Int × List (D85) × Unit) : Option (List (D85) × Unit) :=
 (cond (decide (x2.2.1 < (((List.length x2.1) : Nat) : Int)))
 (gd (decide ((0 : Int) ≤ x2.2.1))
 (Option.bind x2.1[(Int.toNat x2.2.1)]? fun y4 =>
 (Option.bind (F161 y4) fun y5 =>
 (gd (decide ((0 : Int) ≤ x2.2.1))
 (gd (decide (x2.2.1 < (((List.length x2.2.2.1) : Nat) : Int)))
 (Option.bind x2.2.2.1[(Int.toNat x2.2.1)]? fun y6 =>
 (rec (x2.1, (IntKind.wrap IntKind.i64 (x2.2.1 + (1 : Int))), (List.set x2.2.2.1 (Int.toNat x2.2.1) y5.1), ()))))))))
 (e0_0 (x2.2.2.1, ())))
noncomputable def F130 (a0 : List (D85)) : Option (List (D85) × Unit) :=
 (gd (decide ((((List.length a0) : Nat) : Int) ≤ ((4294967296 : Nat) : Int)))
 (gd (decide ((((List.length a0) : Nat) : Int) ≤ (((Int.toNat (((List.length a0) : Nat) : Int)) : Nat) : Int)))
 (iter (F130_R3
 (fun y7 =>
 (some (y7.1, ())))) fuel (a0, (0 : Int), (List.replicate (Int.toNat (((List.length a0) : Nat) : Int)) ((0 : Int), (false, (((0 : Int), ((0 : Int), ([], ()))), ())))), ()))))
noncomputable def C130 : Fun := ⟨[(.ro (.slice Y85))], [((.slice Y85), (.own .z))], fun z => F130 z.1⟩
noncomputable def E130 : Env := ⟨23, tyTab tys, oneTab ones, fnTab [(161, C161)], true, [], [(3, [0, 3, 4], []), (5, [0, 3, 4], []), (6, [3], []), (100000, [3], []), (100001, [0, 3, 4], []), (99999, [2], [])], none, []⟩
noncomputable def L130 : List (LoopS (List (D85) × Unit)) := [⟨3, ⟨[(0, (.pv (.slice Y85))), (3, (.ref (.slice Y85) 56 [])), (4, (.pv (.int .i64)))], [(56, (.data false (.slice Y85) (.own .z)))]⟩, fun κ => F130_R3 (fun y => κ.exit 0 (SSh.mk' ⟨[(3, (.ref (.slice Y85) 56 []))], [(56, (.data false (.slice Y85) (.own .z)))]⟩ y))⟩]
theorem L130_3 : RoundEq E130 L130 L130[0] (nthLoop (codeOf Tryz.f130) 0) := fun κ N x => by kernel_rfl
theorem C130_ok : FreshOk Tryz.prog 130 C130 := tF E130 L130 [nthLoop (codeOf Tryz.f130) 0] Tryz.func130 ty_ok (.cons C161_ok .nil) (.cons L130[0] (by kernel_rfl) L130_3 .nil)
noncomputable def F93 (a0 : D81) : Option (D81 × Unit) :=
 (Option.bind (F130 a0.2.1) fun y0 =>
 (some ((a0.1, (y0.1, ())), ())))
noncomputable def C93 : Fun := ⟨[(.ro Y81)], [(Y81, (.pr .z (.pr (.own .z) .z)))], fun z => F93 z.1⟩
noncomputable def E93 : Env := ⟨12, tyTab tys, oneTab ones, fnTab [(130, C130)], true, [], [(99999, [2], [])], none, []⟩
noncomputable def L93 : List (LoopS (D81 × Unit)) := []
theorem C93_ok : FreshOk Tryz.prog 93 C93 := tF E93 L93 [] Tryz.func93 ty_ok (.consFr C130_ok .nil) .nil
noncomputable def F63_R3 (e0_0 : List (D81) × Unit → Option (List (D81) × Unit)) (rec : List (D81) × Int × List (D81) × Unit → Option (List (D81) × Unit)) (x2 : List (D81) × Int × List (D81) × Unit) : Option (List (D81) × Unit) :=
 (cond (decide (x2.2.1 < (((List.length x2.1) : Nat) : Int)))
 (gd (decide ((0 : Int) ≤ x2.2.1))
 (Option.bind x2.1[(Int.toNat x2.2.1)]? fun y4 =>
 (Option.bind (F93 y4) fun y5 =>
 (gd (decide ((0 : Int) ≤ x2.2.1))
 (gd (decide (x2.2.1 < (((List.length x2.2.2.1) : Nat) : Int)))
 (Option.bind x2.2.2.1[(Int.toNat x2.2.1)]? fun y6 =>
 (rec (x2.1, (IntKind.wrap IntKind.i64 (x2.2.1 + (1 : Int))), (List.set x2.2.2.1 (Int.toNat x2.2.1) y5.1), ()))))))))
 (e0_0 (x2.2.2.1, ())))
noncomputable def F63 (a0 : List (D81)) : Option (List (D81) × Unit) :=
 (gd (decide ((((List.length a0) : Nat) : Int) ≤ ((4294967296 : Nat) : Int)))
 (gd (decide ((((List.length a0) : Nat) : Int) ≤ (((Int.toNat (((List.length a0) : Nat) : Int)) : Nat) : Int)))
 (iter (F63_R3
 (fun y7 =>
 (some (y7.1, ())))) fuel (a0, (0 : Int), (List.replicate (Int.toNat (((List.length a0) : Nat) : Int)) ((0 : Int), ([], ()))), ()))))
noncomputable def C63 : Fun := ⟨[(.ro (.slice Y81))], [((.slice Y81), (.own (.pr .z (.pr (.own .z) .z))))], fun z => F63 z.1⟩
noncomputable def E63 : Env := ⟨23, tyTab tys, oneTab ones, fnTab [(93, C93)], true, [], [(3, [0, 3, 4], []), (5, [0, 3, 4], []), (6, [3], []), (100000, [3], []), (100001, [0, 3, 4], []), (99999, [2], [])], none, []⟩
noncomputable def L63 : List (LoopS (List (D81) × Unit)) := [⟨3, ⟨[(0, (.pv (.slice Y81))), (3, (.ref (.slice Y81) 56 [])), (4, (.pv (.int .i64)))], [(56, (.data false (.slice Y81) (.own (.pr .z (.pr (.own .z) .z)))))]⟩, fun κ => F63_R3 (fun y => κ.exit 0 (SSh.mk' ⟨[(3, (.ref (.slice Y81) 56 []))], [(56, (.data false (.slice Y81) (.own (.pr .z (.pr (.own .z) .z)))))]⟩ y))⟩]
theorem L63_3 : RoundEq E63 L63 L63[0] (nthLoop (codeOf Tryz.f63) 0) := fun κ N x => by kernel_rfl
theorem C63_ok : FreshOk Tryz.prog 63 C63 := tF E63 L63 [nthLoop (codeOf Tryz.f63) 0] Tryz.func63 ty_ok (.consFr C93_ok .nil) (.cons L63[0] (by kernel_rfl) L63_3 .nil)
noncomputable def F162 (a0 : D190) : Option (D190 × Unit) :=
 (some ((a0.1, (a0.2.1, ())), ()))
noncomputable def C162 : Fun := ⟨[(.ro Y190)], [(Y190, .z)], fun z => F162 z.1⟩
noncomputable def E162 : Env := ⟨11, tyTab tys, oneTab ones, fnTab [], true, [], [(99999, [2], [])], none, []⟩
noncomputable def L162 : List (LoopS (D190 × Unit)) := []
theorem C162_ok : QuietOk Tryz.prog 162 C162 := tQ E162 L162 [] Tryz.func162 ty_ok .nil .nil
noncomputable def F131_R3 (e0_0 : List (D190) × Unit → Option (List (D190) × Unit)) (rec : List (D190) × Int × List (D190) × Unit → Option (List (D190) × Unit)) (x2 : List (D190) × Int × List (D190) × Unit) : Option (List (D190) × Unit) :=
 (cond (decide (x2.2.1 < (((List.length x2.1) : Nat) : Int)))
 (gd (decide ((0 : Int) ≤ x2.2.1))
 (Option.bind x2.1[(Int.toNat x2.2.1)]? fun y4 =>
 (Option.bind (F162 y4) fun y5 =>
 (gd (decide ((0 : Int) ≤ x2.2.1))
 (gd (decide (x2.2.1 < (((List.length x2.2.2.1) : Nat) : Int)))
 (Option.bind x2.2.2.1[(Int.toNat x2.2.1)]? fun y6 =>
 (rec (x2.1, (IntKind.wrap IntKind.i64 (x2.2.1 + (1 : Int))), (List.set x2.2.2.1 (Int.toNat x2.2.1) y5.1), ()))))))))
 (e0_0 (x2.2.2.1, ())))
noncomputable def F131 (a0 : List (D190)) : Option (List (D190) × Unit) :=
 (gd (decide ((((List.length a0) : Nat) : Int) ≤ ((4294967296 : Nat) : Int)))
 (gd (decide ((((List.length a0) : Nat) : Int) ≤ (((Int.toNat (((List.length a0) : Nat) : Int)) : Nat) : Int)))
 (iter (F131_R3
 (fun y7 =>
 (some (y7.1, ())))) fuel (a0, (0 : Int), (List.replicate (Int.toNat (((List.length a0) : Nat) : Int)) ([], (false, ()))), ()))))
noncomputable def C131 : Fun := ⟨[(.ro (.slice Y190))], [((.slice Y190), (.own .z))], fun z => F131 z.1⟩
noncomputable def E131 : Env := ⟨23, tyTab tys, oneTab ones, fnTab [(162, C162)], true, [], [(3, [0, 3, 4], []), (5, [0, 3, 4], []), (6, [3], []), (100000, [3], []), (100001, [0, 3, 4], []), (99999, [2], [])], none, []⟩
noncomputable def L131 : List (LoopS (List (D190) × Unit)) := [⟨3, ⟨[(0, (.pv (.slice Y190))), (3, (.ref (.slice Y190) 56 [])), (4, (.pv (.int .i64)))], [(56, (.data false (.slice Y190) (.own .z)))]⟩, fun κ => F131_R3 (fun y => κ.exit 0 (SSh.mk' ⟨[(3, (.ref (.slice Y190) 56 []))], [(56, (.data false (.slice Y190) (.own .z)))]⟩ y))⟩]
theorem L131_3 : RoundEq E131 L131 L131[0] (nthLoop (codeOf Tryz.f131) 0) := fun κ N x => by kernel_rfl
theorem C131_ok : FreshOk Tryz.prog 131 C131 := tF E131 L131 [nthLoop (codeOf Tryz.f131) 0] Tryz.func131 ty_ok (.cons C162_ok .nil) (.cons L131[0] (by kernel_rfl) L131_3 .nil)
noncomputable def F94 (a0 : D138) : Option (D138 × Unit) :=
 (Option.bind (F131 a0.2.1) fun y0 =>
 (some ((a0.1, (y0.1, ())), ())))
noncomputable def C94 : Fun := ⟨[(.ro Y138)], [(Y138, (.pr .z (.pr (.own .z) .z)))], fun z => F94 z.1⟩
noncomputable def E94 : Env := ⟨12, tyTab tys, oneTab ones, fnTab [(131, C131)], true, [], [(99999, [2], [])], none, []⟩
noncomputable def L94 : List (LoopS (D138 × Unit)) := []
theorem C94_ok : FreshOk Tryz.prog 94 C94 := tF E94 L94 [] Tryz.func94 ty_ok (.consFr C131_ok .nil) .nil
noncomputable def F64_R3 (e0_0 : List (D138) × Unit → Option (List (D138) × Unit)) (rec : List (D138) × Int × List (D138) × Unit → Option (List (D138) × Unit)) (x2 : List (D138) × Int × List (D138) × Unit) : Option (List (D138) × Unit) :=
 (cond (decide (x2.2.1 < (((List.length x2.1) : Nat) : Int)))
 (gd (decide ((0 : Int) ≤ x2.2.1))
 (Option.bind x2.1[(Int.toNat x2.2.1)]? fun y4 =>
 (Option.bind (F94 y4) fun y5 =>
 (gd (decide ((0 : Int) ≤ x2.2.1))
 (gd (decide (x2.2.1 < (((List.length x2.2.2.1) : Nat) : Int)))
 (Option.bind x2.2.2.1[(Int.toNat x2.2.1)]? fun y6 =>
 (rec (x2.1, (IntKind.wrap IntKind.i64 (x2.2.1 + (1 : Int))), (List.set x2.2.2.1 (Int.toNat x2.2.1) y5.1), ()))))))))
 (e0_0 (x2.2.2.1, ())))
noncomputable def F64 (a0 : List (D138)) : Option (List (D138) × Unit) :=
 (gd (decide ((((List.length a0) : Nat) : Int) ≤ ((4294967296 : Nat) : Int)))
 (gd (decide ((((List.length a0) : Nat) : Int) ≤ (((Int.toNat (((List.length a0) : Nat) : Int)) : Nat) : Int)))
 (iter (F64_R3
 (fun y7 =>
 (some (y7.1, ())))) fuel (a0, (0 : Int), (List.replicate (Int.toNat (((List.length a0) : Nat) : Int)) ([], ([], ()))), ()))))
noncomputable def C64 : Fun := ⟨[(.ro (.slice Y138))], [((.slice Y138), (.own (.pr .z (.pr (.own .z) .z))))], fun z => F64 z.1⟩
noncomputable def E64 : Env := ⟨23, tyTab tys, oneTab ones, fnTab [(94, C94)], true, [], [(3, [0, 3, 4], []), (5, [0, 3, 4], []), (6, [3], []), (100000, [3], []), (100001, [0, 3, 4], []), (99999, [2], [])], none, []⟩
noncomputable def L64 : List (LoopS (List (D138) × Unit)) := [⟨3, ⟨[(0, (.pv (.slice Y138))), (3, (.ref (.slice Y138) 56 [])), (4, (.pv (.int .i64)))], [(56, (.data false (.slice Y138) (.own (.pr .z (.pr (.own .z) .z)))))]⟩, fun κ => F64_R3 (fun y => κ.exit 0 (SSh.mk' ⟨[(3, (.ref (.slice Y138) 56 []))], [(56, (.data false (.slice Y138) (.own (.pr .z (.pr (.own .z) .z)))))]⟩ y))⟩]
theorem L64_3 : RoundEq E64 L64 L64[0] (nthLoop (codeOf Tryz.f64) 0) := fun κ N x => by kernel_rfl
theorem C64_ok : FreshOk Tryz.prog 64 C64 := tF E64 L64 [nthLoop (codeOf Tryz.f64) 0] Tryz.func64 ty_ok (.consFr C94_ok .nil) (.cons L64[0] (by kernel_rfl) L64_3 .nil)
noncomputable def F35 (a0 : D62) : Option (D62 × Unit) :=
 (Option.bind (F63 a0.2.1) fun y0 =>
 (Option.bind (F64 a0.2.2.1) fun y1 =>
 (some ((a0.1, (y0.1, (y1.1, ()))), ()))))
noncomputable def C35 : Fun := ⟨[(.ro Y62)], [(Y62, (.pr .z (.pr (.own (.pr .z (.pr (.own .z) .z))) (.pr (.own (.pr .z (.pr (.own .z) .z))) .z))))], fun z => F35 z.1⟩
noncomputable def E35 : Env := ⟨16, tyTab tys, oneTab ones, fnTab [(63, C63), (64, C64)], true, [], [(99999, [2], [])], none, []⟩
noncomputable def L35 : List (LoopS (D62 × Unit)) := []
theorem C35_ok : FreshOk Tryz.prog 35 C35 := tF E35 L35 [] Tryz.func35 ty_ok (.consFr C63_ok (.consFr C64_ok .nil)) .nil
noncomputable def F17_R3 (e0_0 : List (D62) × Unit → Option (List (D62) × Unit)) (rec : List (D62) × Int × List (D62) × Unit → Option (List (D62) × Unit)) (x2 : List (D62) × Int × List (D62) × Unit) : Option (List (D62) × Unit) :=
 (cond (decide (x2.2.1 < (((List.length x2.1) : Nat) : Int)))
 (gd (decide ((0 : Int) ≤ x2.2.1))
 (Option.bind x2.1[(Int.toNat x2.2.1)]? fun y4 =>
 (Option.bind (F35 y4) fun y5 =>
 (gd (decide ((0 : Int) ≤ x2.2.1))
 (gd (decide (x2.2.1 < (((List.length x2.2.2.1) : Nat) : Int)))
 (Option.bind x2.2.2.1[(Int.toNat x2.2.1)]? fun y6 =>
 (rec (x2.1, (IntKind.wrap IntKind.i64 (x2.2.1 + (1 : Int))), (List.set x2.2.2.1 (Int.toNat x2.2.1) y5.1), ()))))))))
 (e0_0 (x2.2.2.1, ())))
noncomputable def F17 (a0 : List (D62)) : Option (List (D62) × Unit) :=
 (gd (decide ((((List.length a0) : Nat) : Int) ≤ ((4294967296 : Nat) : Int)))
 (gd (decide ((((List.length a0) : Nat) : Int) ≤ (((Int.toNat (((List.length a0) : Nat) : Int)) : Nat) : Int)))
 (iter (F17_R3
 (fun y7 =>
 (some (y7.1, ())))) fuel (a0, (0 : Int), (List.replicate (Int.toNat (((List.length a0) : Nat) : Int)) ([], ([], ([], ())))), ()))))
noncomputable def C17 : Fun := ⟨[(.ro (.slice Y62))], [((.slice Y62), (.own (.pr .z (.pr (.own (.pr .z (.pr (.own .z) .z))) (.pr (.own (.pr .z (.pr (.own .z) .z))) .z)))))], fun z => F17 z.1⟩
noncomputable def E17 : Env := ⟨23, tyTab tys, oneTab ones, fnTab [(35, C35)], true, [], [(3, [0, 3, 4], []), (5, [0, 3, 4], []), (6, [3], []), (100000, [3], []), (100001, [0, 3, 4], []), (99999, [2], [])], none, []⟩
noncomputable def L17 : List (LoopS (List (D62) × Unit)) := [⟨3, ⟨[(0, (.pv (.slice Y62))), (3, (.ref (.slice Y62) 56 [])), (4, (.pv (.int .i64)))], [(56, (.data false (.slice Y62) (.own (.pr .z (.pr (.own (.pr .z (.pr (.own .z) .z))) (.pr (.own (.pr .z (.pr (.own .z) .z))) .z))))))]⟩, fun κ => F17_R3 (fun y => κ.exit 0 (SSh.mk' ⟨[(3, (.ref (.slice Y62) 56 []))], [(56, (.data false (.slice Y62) (.own (.pr .z (.pr (.own (.pr .z (.pr (.own .z) .z))) (.pr (.own (.pr .z (.pr (.own .z) .z))) .z))))))]⟩ y))⟩]
theorem L17_3 : RoundEq E17 L17 L17[0] (nthLoop (codeOf Tryz.f17) 0) := fun κ N x => by kernel_rfl
theorem C17_ok : FreshOk Tryz.prog 17 C17 := tF E17 L17 [nthLoop (codeOf Tryz.f17) 0] Tryz.func17 ty_ok (.consFr C35_ok .nil) (.cons L17[0] (by kernel_rfl) L17_3 .nil)
noncomputable def F209 (a0 : D203) : Option (D203 × Unit) :=
 (Option.bind (F133 a0.2.2.1) fun y0 =>
 (some ((a0.1, (a0.2.1, (y0.1, ()))), ())))
noncomputable def C209 : Fun := ⟨[(.ro Y203)], [(Y203, .z)], fun z => F209 z.1⟩
noncomputable def E209 : Env := ⟨15, tyTab tys, oneTab ones, fnTab [(133, C133)], true, [], [(99999, [2], [])], none, []⟩
noncomputable def L209 : List (LoopS (D203 × Unit)) := []
theorem C209_ok : QuietOk Tryz.prog 209 C209 := tQ E209 L209 [] Tryz.func209 ty_ok (.cons C133_ok .nil) .nil
noncomputable def F198_R3 (e0_0 : List (D203) × Unit → Option D194) (rec : List (D203) × Int × List (D203) × Unit → Option D194) (x2 : List (D203) × Int × List (D203) × Unit) : Option D194 :=
 (cond (decide (x2.2.1 < (((List.length x2.1) : Nat) : Int)))
 (gd (decide ((0 : Int) ≤ x2.2.1))
 (Option.bind x2.1[(Int.toNat x2.2.1)]? fun y4 =>
 (Option.bind (F209 y4) fun y5 =>
 (gd (decide ((0 : Int) ≤ x2.2.1))
 (gd (decide (x2.2.1 < (((List.length x2.2.2.1) : Nat) : Int)))
 (Option.bind x2.2.2.1[(Int.toNat x2.2.1)]? fun y6 =>
 (rec (x2.1, (IntKind.wrap IntKind.i64 (x2.2.1 + (1 : Int))), (List.set x2.2.2.1 (Int.toNat x2.2.1) y5.1), ()))))))))
 (e0_0 (x2.2.2.1, ())))
noncomputable def F198 (a0 : List (D203)) : Option D194 :=
 (gd (decide ((((List.length a0) : Nat) : Int) ≤ ((4294967296 : Nat) : Int)))
 (gd (decide ((((List.length a0) : Nat) : Int) ≤ (((Int.toNat (((List.length a0) : Nat) : Int)) : Nat) : Int)))
 (iter (F198_R3
 (fun y7 =>
 (some (y7.1, ())))) fuel (a0, (0 : Int), (List.replicate (Int.toNat (((List.length a0) : Nat) : Int)) ((0 : Int), ([], (((0 : Int), ((0 : Int), ([], ()))), ())))), ()))))
noncomputable def C198 : Fun := ⟨[(.ro (.slice Y203))], [((.slice Y203), (.own .z))], fun z => F198 z.1⟩
noncomputable def E198 : Env := ⟨23, tyTab tys, oneTab ones, fnTab [(209, C209)], true, [], [(3, [0, 3, 4], []), (5, [0, 3, 4], []), (6, [3], []), (100000, [3], []), (100001, [0, 3, 4], []), (99999, [2], [])], none, []⟩
noncomputable def L198 : List (LoopS D194) := [⟨3, ⟨[(0, (.pv (.slice Y203))), (3, (.ref (.slice Y203) 56 [])), (4, (.pv (.int .i64)))], [(56, (.data false (.slice Y203) (.own .z)))]⟩, fun κ => F198_R3 (fun y => κ.exit 0 (SSh.mk' ⟨[(3, (.ref (.slice Y203) 56 []))], [(56, (.data false (.slice Y203) (.own .z)))]⟩ y))⟩]
theorem L198_3 : RoundEq E198 L198 L198[0] (nthLoop (codeOf Tryz.f198) 0) := fun κ N x => by kernel_rfl
theorem C198_ok : FreshOk Tryz.prog 198 C198 := tF E198 L198 [nthLoop (codeOf Tryz.f198) 0] Tryz.func198 ty_ok (.cons C209_ok .nil) (.cons L198[0] (by kernel_rfl) L198_3 .nil)
noncomputable def F182 (a0 : D194) : Option (D194 × Unit) :=
 (Option.bind (F198 a0.1) fun y0 =>
 (some ((y0.1, ()), ())))
noncomputable def C182 : Fun := ⟨[(.ro Y194)], [(Y194, (.pr (.own .z) .z))], fun z => F182 z.1⟩
noncomputable def E182 : Env := ⟨9, tyTab tys, oneTab ones, fnTab [(198, C198)], true, [], [(99999, [2], [])], none, []⟩
noncomputable def L182 : List (LoopS (D194 × Unit)) := []
theorem C182_ok : FreshOk Tryz.prog 182 C182 := tF E182 L182 [] Tryz.func182 ty_ok (.consFr C198_ok .nil) .nil
noncomputable def F163_R3 (e0_0 : List (D194) × Unit → Option D117) (rec : List (D194) × Int × List (D194) × Unit → Option D117) (x2 : List (D194) × Int × List (D194) × Unit) : Option D117 :=
 (cond (decide (x2.2.1 < (((List.length x2.1) : Nat) : Int)))
 (gd (decide ((0 : Int) ≤ x2.2.1))
 (Option.bind x2.1[(Int.toNat x2.2.1)]? fun y4 =>
 (Option.bind (F182 y4) fun y5 =>
 (gd (decide ((0 : Int) ≤ x2.2.1))
 (gd (decide (x2.2.1 < (((List.length x2.2.2.1) : Nat) : Int)))
 (Option.bind x2.2.2.1[(Int.toNat x2.2.1)]? fun y6 =>
 (rec (x2.1, (IntKind.wrap IntKind.i64 (x2.2.1 + (1 : Int))), (List.set x2.2.2.1 (Int.toNat x2.2.1) y5.1), ()))))))))
 (e0_0 (x2.2.2.1, ())))
noncomputable def F163 (a0 : List (D194)) : Option D117 :=
 (gd (decide ((((List.length a0) : Nat) : Int) ≤ ((4294967296 : Nat) : Int)))
 (gd (decide ((((List.length a0) : Nat) : Int) ≤ (((Int.toNat (((List.length a0) : Nat) : Int)) : Nat) : Int)))
 (iter (F163_R3
 (fun y7 =>
 (some (y7.1, ())))) fuel (a0, (0 : Int), (List.replicate (Int.toNat (((List.length a0) : Nat) : Int)) ([], ())), ()))))
noncomputable def C163 : Fun := ⟨[(.ro (.slice Y194))], [((.slice Y194), (.own (.pr (.own .z) .z)))], fun z => F163 z.1⟩
noncomputable def E163 : Env := ⟨23, tyTab tys, oneTab ones, fnTab [(182, C182)], true, [], [(3, [0, 3, 4], []), (5, [0, 3, 4], []), (6, [3], []), (100000, [3], []), (100001, [0, 3, 4], []), (99999, [2], [])], none, []⟩
noncomputable def L163 : List (LoopS D117) := [⟨3, ⟨[(0, (.pv (.slice Y194))), (3, (.ref (.slice Y194) 56 [])), (4, (.pv (.int .i64)))], [(56, (.data false (.slice Y194) (.own (.pr (.own .z) .z))))]⟩, fun κ => F163_R3 (fun y => κ.exit 0 (SSh.mk' ⟨[(3, (.ref (.slice Y194) 56 []))], [(56, (.data false (.slice Y194) (.own (.pr (.own .z) .z))))]⟩ y))⟩]
theorem L163_3 : RoundEq E163 L163 L163[0] (nthLoop (codeOf Tryz.f163) 0) := fun κ N x => by kernel_rfl
theorem C163_ok : FreshOk Tryz.prog 163 C163 := tF E163 L163 [nthLoop (codeOf Tryz.f163) 0] Tryz.func163 ty_ok (.consFr C182_ok .nil) (.cons L163[0] (by kernel_rfl) L163_3 .nil)
noncomputable def F132 (a0 : D117) : Option (D117 × Unit) :=
 (Option.bind (F163 a0.1) fun y0 =>
 (some ((y0.1, ()), ())))
noncomputable def C132 : Fun := ⟨[(.ro Y117)], [(Y117, (.pr (.own (.pr (.own .z) .z)) .z))], fun z => F132 z.1⟩
noncomputable def E132 : Env := ⟨9, tyTab tys, oneTab ones, fnTab [(163, C163)], true, [], [(99999, [2], [])], none, []⟩
noncomputable def L132 : List (LoopS (D117 × Unit)) := []
theorem C132_ok : FreshOk Tryz.prog 132 C132 := tF E132 L132 [] Tryz.func132 ty_ok (.consFr C163_ok .nil) .nil
noncomputable def F95 (a0 : D119) : Option (D119 × Unit) :=
 (Option.bind (F132 a0.2.1) fun y0 =>
 (some ((a0.1, (y0.1, ())), ())))
noncomputable def C95 : Fun := ⟨[(.ro Y119)], [(Y119, (.pr .z (.pr (.pr (.own (.pr (.own .z) .z)) .z) .z)))], fun z => F95 z.1⟩
noncomputable def E95 : Env := ⟨12, tyTab tys, oneTab ones, fnTab [(132, C132)], true, [], [(99999, [2], [])], none, []⟩
noncomputable def L95 : List (LoopS (D119 × Unit)) := []
theorem C95_ok : FreshOk Tryz.prog 95 C95 := tF E95 L95 [] Tryz.func95 ty_ok (.consFr C132_ok .nil) .nil
noncomputable def F65_R3 (e0_0 : List (D119) × Unit → Option (List (D119) × Unit)) (rec : List (D119) × Int × List (D119) × Unit → Option (List (D119) × Unit)) (x2 : List (D119) × Int × List (D119) × Unit) : Option (List (D119) × Unit) :=
 (cond (decide (x2.2.1 < (((List.length x2.1) : Nat) : Int)))
 (gd (decide ((0 : Int) ≤ x2.2.1))
 (Option.bind x2.1[(Int.toNat x2.2.1)]? fun y4 =>
 (Option.bind (F95 y4) fun y5 =>
 (gd (decide ((0 : Int) ≤ x2.2.1))
 (gd (decide (x2.2.1 < (((List.length x2.2.2.1) : Nat) : Int)))
 (Option.bind x2.2.2.1[(Int.toNat x2.2.1)]? fun y6 =>
 (rec (x2.1, (IntKind.wrap IntKind.i64 (x2.2.1 + (1 : Int))), (List.set x2.2.2.1 (Int.toNat x2.2.1) y5.1), ()))))))))
 (e0_0 (x2.2.2.1, ())))
noncomputable def F65 (a0 : List (D119)) : Option (List (D119) × Unit) :=
 (gd (decide ((((List.length a0) : Nat) : Int) ≤ ((4294967296 : Nat) : Int)))
 (gd (decide ((((List.length a0) : Nat) : Int) ≤ (((Int.toNat (((List.length a0) : Nat) : Int)) : Nat) : Int)))
 (iter (F65_R3
 (fun y7 =>
 (some (y7.1, ())))) fuel (a0, (0 : Int), (List.replicate (Int.toNat (((List.length a0) : Nat) : Int)) ([], (([], ()), ()))), ()))))
noncomputable def C65 : Fun := ⟨[(.ro (.slice Y119))], [((.slice Y119), (.own (.pr .z (.pr (.pr (.own (.pr (.own .z) .z)) .z) .z))))], fun z => F65 z.1⟩
noncomputable def E65 : Env := ⟨23, tyTab tys, oneTab ones, fnTab [(95, C95)], true, [], [(3, [0, 3, 4], []), (5, [0, 3, 4], []), (6, [3], []), (100000, [3], []), (100001, [0, 3, 4], []), (99999, [2], [])], none, []⟩
noncomputable def L65 : List (LoopS (List (D119) × Unit)) := [⟨3, ⟨[(0, (.pv (.slice Y119))), (3, (.ref (.slice Y119) 56 [])), (4, (.pv (.int .i64)))], [(56, (.data false (.slice Y119) (.own (.pr .z (.pr (.pr (.own (.pr (.own .z) .z)) .z) .z)))))]⟩, fun κ => F65_R3 (fun y => κ.exit 0 (SSh.mk' ⟨[(3, (.ref (.slice Y119) 56 []))], [(56, (.data false (.slice Y119) (.own (.pr .z (.pr (.pr (.own (.pr (.own .z) .z)) .z) .z)))))]⟩ y))⟩]
theorem L65_3 : RoundEq E65 L65 L65[0] (nthLoop (codeOf Tryz.f65) 0) := fun κ N x => by kernel_rfl
theorem C65_ok : FreshOk Tryz.prog 65 C65 := tF E65 L65 [nthLoop (codeOf Tryz.f65) 0] Tryz.func65 ty_ok (.consFr C95_ok .nil) (.cons L65[0] (by kernel_rfl) L65_3 .nil)
noncomputable def F96 (a0 : D89) : Option (D89 × Unit) :=
 (Option.bind (F133 a0.2.2.2.1) fun y0 =>
 (some ((a0.1, (a0.2.1, (a0.2.2.1, (y0.1, ())))), ())))
noncomputable def C96 : Fun := ⟨[(.ro Y89)], [(Y89, .z)], fun z => F96 z.1⟩
noncomputable def E96 : Env := ⟨18, tyTab tys, oneTab ones, fnTab [(133, C133)], true, [], [(99999, [2], [])], none, []⟩
noncomputable def L96 : List (LoopS (D89 × Unit)) := []
theorem C96_ok : QuietOk Tryz.prog 96 C96 := tQ E96 L96 [] Tryz.func96 ty_ok (.cons C133_ok .nil) .nil
end Go.V
