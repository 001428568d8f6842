/- What functions of the program compute, printed by a program of ours. No condition. -/
import Derived.Test.YtafhmggfbojpdaaGreatDoorWF0
namespace Go.V
open Go.Proofs
set_option maxRecDepth 100000
set_option linter.unusedVariables false
noncomputable def F211_R2 (e0_0 : List (D74) × Unit → Option (List (D74) × Bool × Unit)) (er_1 : Bool × List (D74) × Unit → Option (List (D74) × Bool × Unit)) (rec : List UInt8 × List (D74) × Unit → Option (List (D74) × Bool × Unit)) (x2 : List UInt8 × List (D74) × Unit) : Option (List (D74) × Bool × Unit) :=
 (cond (decide ((((List.length x2.1) : Nat) : Int) > (0 : Int)))
 (Option.bind (F212 x2.1) fun y4 =>
 (cond (!y4.2.2.1)
 (er_1 (false, [], ()))
 (gd (decide (((List.length x2.2.1) + (List.length [y4.1])) ≤ lim))
 (rec (y4.2.1, (x2.2.1 ++ [y4.1]), ())))))
 (e0_0 (x2.2.1, ())))
noncomputable def F211 (a0 : List UInt8) : Option (List (D74) × Bool × Unit) :=
 (iter (F211_R2
 (fun y6 =>
 (some (y6.1, (true, ()))))
 (fun y7 =>
 (some (y7.2.1, (y7.1, ()))))) fuel (a0, [], ()))
noncomputable def C211 : Fun := ⟨[(.ro .str)], [((.slice Y74), .z), (.bool, .z)], fun z => F211 z.1⟩
noncomputable def E211 : Env := ⟨27, tyTab tys, oneTab ones, fnTab [(212, C212)], false, [], [(2, [0, 4], []), (3, [0, 4], []), (6, [4, 5, 6], []), (8, [4], []), (100000, [4], []), (100001, [0, 4], []), (99999, [2, 3], [])], none, [], []⟩
noncomputable def L211 : List (LoopS (List (D74) × Bool × Unit)) := [⟨2, ⟨[(0, (.pv .str)), (4, (.ref (.slice Y74) 64 []))], [(64, (.data false (.slice Y74) (.own .z)))]⟩, fun κ => F211_R2 (fun y => κ.exit 0 (SSh.mk' ⟨[(4, (.ref (.slice Y74) 64 []))], [(64, (.data false (.slice Y74) (.own .z)))]⟩ y)) (fun y => κ.ret (SSh.mk' ⟨[(2, (.ref (.slice Y74) 160 [])), (3, (.pv .bool))], [(160, (.data false (.slice Y74) (.own .z)))]⟩ y))⟩]
theorem L211_2 : RoundEq E211 L211 L211[0] (nthLoop (codeOf Tryz.f211) 0) := fun κ N x => by kernel_rfl
theorem C211_ok : QuietOk Tryz.prog 211 C211 := tQ E211 L211 [nthLoop (codeOf Tryz.f211) 0] Tryz.func211 ty_ok (.cons C212_ok .nil) (.cons L211[0] (by kernel_rfl) L211_2 .nil)
abbrev G196 : Type := (D74) → (Int) → Option (Bool × Unit)
noncomputable def H196 (g : G196) : Fun := ⟨[(.ro Y74), (.ro (.int .i64))], [(.bool, .z)], fun z => g z.1 z.2.1⟩
noncomputable def B196_R15 (g : G196) (e1_0 : Unit → Option (Bool × Unit)) (er_1 : Bool × Unit → Option (Bool × Unit)) (rec : Int × List (D74) × Int × Unit → Option (Bool × Unit)) (x7 : Int × List (D74) × Int × Unit) : Option (Bool × Unit) :=
 (cond (decide (x7.2.2.1 < (((List.length x7.2.1) : Nat) : Int)))
 (gd (decide ((0 : Int) ≤ x7.2.2.1))
 (Option.bind x7.2.1[(Int.toNat x7.2.2.1)]? fun y10 =>
 (Option.bind (g y10 (IntKind.wrap IntKind.i64 (x7.1 - (1 : Int)))) fun y11 =>
 (cond (!y11.1)
 (er_1 (false, ()))
 (rec (x7.1, x7.2.1, (IntKind.wrap IntKind.i64 (x7.2.2.1 + (1 : Int))), ()))))))
 (e1_0 (())))
noncomputable def B196_R25 (g : G196) (e3_0 : Unit → Option (Bool × Unit)) (er_1 : Bool × Unit → Option (Bool × Unit)) (rec : Int × List (D268) × Int × Unit → Option (Bool × Unit)) (x18 : Int × List (D268) × Int × Unit) : Option (Bool × Unit) :=
 (cond (decide (x18.2.2.1 < (((List.length x18.2.1) : Nat) : Int)))
 (let j29 : Int × List (D268) × Int × Unit → Option (Bool × Unit) := fun (y30 : Int × List (D268) × Int × Unit) =>
 (rec (y30.1, y30.2.1, (IntKind.wrap IntKind.i64 (y30.2.2.1 + (1 : Int))), ()))
 (gd (decide ((0 : Int) ≤ x18.2.2.1))
 (Option.bind x18.2.1[(Int.toNat x18.2.2.1)]? fun y21 =>
 (Option.bind (F107 y21.1) fun y22 =>
 (cond (!y22.1)
 (er_1 (false, ()))
 (cond (decide (x18.2.2.1 > (0 : Int)))
 (gd (decide ((0 : Int) ≤ (IntKind.wrap IntKind.i64 (x18.2.2.1 - (1 : Int)))))
 (Option.bind x18.2.1[(Int.toNat (IntKind.wrap IntKind.i64 (x18.2.2.1 - (1 : Int))))]? fun y23 =>
 (gd (decide ((0 : Int) ≤ x18.2.2.1))
 (Option.bind x18.2.1[(Int.toNat x18.2.2.1)]? fun y24 =>
 (cond (!(Op.bytesLess y23.1 y24.1))
 (er_1 (false, ()))
 (gd (decide ((0 : Int) ≤ x18.2.2.1))
 (Option.bind x18.2.1[(Int.toNat x18.2.2.1)]? fun y25 =>
 (Option.bind (g y25.2.1 (IntKind.wrap IntKind.i64 (x18.1 - (1 : Int)))) fun y26 =>
 (cond (!y26.1)
 (er_1 (false, ()))
 (j29 (x18.1, x18.2.1, x18.2.2.1, ())))))))))))
 (gd (decide ((0 : Int) ≤ x18.2.2.1))
 (Option.bind x18.2.1[(Int.toNat x18.2.2.1)]? fun y27 =>
 (Option.bind (g y27.2.1 (IntKind.wrap IntKind.i64 (x18.1 - (1 : Int)))) fun y28 =>
 (cond (!y28.1)
 (er_1 (false, ()))
 (j29 (x18.1, x18.2.1, x18.2.2.1, ()))))))))))))
 (e3_0 (())))
noncomputable def B196 (g : G196) (a0 : D74) (a1 : Int) : Option (Bool × Unit) :=
 (cond (a0.1 == (0 : Int))
 (cond (a0.2.1 == (0 : Int))
 (some ((a0.2.2.1 == []), ()))
 (some (false, ())))
 (cond (a0.1 == (1 : Int))
 (Option.bind (F44 a0.2.1 (0 : Int) (1 : Int)) fun y1 =>
 (cond y1.1
 (some ((a0.2.2.1 == []), ()))
 (some (false, ()))))
 (cond (a0.1 == (2 : Int))
 (Option.bind (F44 a0.2.1 (-(1000000000000 : Int)) (1000000000000 : Int)) fun y2 =>
 (cond y2.1
 (some ((a0.2.2.1 == []), ()))
 (some (false, ()))))
 (cond (a0.1 == (3 : Int))
 (cond (a0.2.1 == (0 : Int))
 (some ((decide ((((List.length a0.2.2.1) : Nat) : Int) ≤ (300 : Int))), ()))
 (some (false, ())))
 (cond (a0.1 == (4 : Int))
 (Option.bind (F211 a0.2.2.1) fun y3 =>
 (cond (a0.2.1 != (0 : Int))
 (some (false, ()))
 (cond (!y3.2.1)
 (some (false, ()))
 (cond (decide ((((List.length a0.2.2.1) : Nat) : Int) > (300 : Int)))
 (some (false, ()))
 (cond (a1 == (0 : Int))
 (some (false, ()))
 (iter (B196_R15 g
 (fun y12 =>
 (some (true, ())))
 (fun y13 =>
 (some (y13.1, ())))) fuel (a1, y3.1, (0 : Int), ())))))))
 (cond (a0.1 == (5 : Int))
 (Option.bind (F197 a0.2.2.1) fun y14 =>
 (cond (a0.2.1 != (0 : Int))
 (some (false, ()))
 (cond (!y14.2.1)
 (some (false, ()))
 (cond (decide ((((List.length a0.2.2.1) : Nat) : Int) > (300 : Int)))
 (some (false, ()))
 (cond (a1 == (0 : Int))
 (some (false, ()))
 (iter (B196_R25 g
 (fun y31 =>
 (some (true, ())))
 (fun y32 =>
 (some (y32.1, ())))) fuel (a1, y14.1, (0 : Int), ())))))))
 (some (false, ()))))))))
noncomputable def K196 (g : G196) : Fun := ⟨[(.ro Y74), (.ro (.int .i64))], [(.bool, .z)], fun z => B196 g z.1 z.2.1⟩
noncomputable def E196 (g : G196) : Env := ⟨160, tyTab tys, oneTab ones, fnTab [(44, C44), (107, C107), (196, (H196 g)), (197, C197), (211, C211)], false, [], [(14, [1, 5], []), (15, [1, 5, 7], []), (16, [1, 5, 7], []), (17, [1, 5, 7], []), (19, [], []), (24, [1, 8], []), (25, [1, 8, 10], []), (26, [1, 8, 10], []), (27, [1, 8, 10], []), (29, [], []), (30, [], []), (100000, [], []), (100001, [], []), (100002, [1, 5, 7], []), (100003, [], []), (100004, [1, 8, 10], []), (99999, [4], [])], none, [], []⟩
noncomputable def L196 (g : G196) : List (LoopS (Bool × Unit)) := [⟨15, ⟨[(1, (.pv (.int .i64))), (5, (.pv (.slice Y74))), (7, (.pv (.int .i64)))], []⟩, fun κ => B196_R15 g (fun y => κ.exit 1 (SSh.mk' ⟨[], []⟩ y)) (fun y => κ.ret (SSh.mk' ⟨[(4, (.pv .bool))], []⟩ y))⟩,
  ⟨25, ⟨[(1, (.pv (.int .i64))), (8, (.pv (.slice Y268))), (10, (.pv (.int .i64)))], []⟩, fun κ => B196_R25 g (fun y => κ.exit 3 (SSh.mk' ⟨[], []⟩ y)) (fun y => κ.ret (SSh.mk' ⟨[(4, (.pv .bool))], []⟩ y))⟩]
theorem L196_25 (g : G196) : RoundEq (E196 g) (L196 g) ((L196 g)[1]'(Nat.le_of_ble_eq_true rfl)) (nthLoop (codeOf Tryz.f196) 1) := fun κ N x => by kernel_rfl
theorem L196_15 (g : G196) : RoundEq (E196 g) (L196 g) ((L196 g)[0]'(Nat.le_of_ble_eq_true rfl)) (nthLoop (codeOf Tryz.f196) 0) := fun κ N x => by kernel_rfl
theorem K196_ok (g : G196) (hg : QuietOk Tryz.prog 196 (H196 g)) : QuietOk Tryz.prog 196 (K196 g) := tQ (E196 g) (L196 g) [nthLoop (codeOf Tryz.f196) 0, nthLoop (codeOf Tryz.f196) 1] Tryz.func196 ty_ok (.cons C44_ok (.cons C107_ok (.cons hg (.cons C197_ok (.cons C211_ok .nil))))) (.cons ((L196 g)[0]'(Nat.le_of_ble_eq_true rfl)) (by kernel_rfl) (L196_15 g) (.cons ((L196 g)[1]'(Nat.le_of_ble_eq_true rfl)) (by kernel_rfl) (L196_25 g) .nil))
noncomputable def S196 : Nat → G196
  | 0 => fun _ _ => none
  | k + 1 => B196 (S196 k)
noncomputable def F196 : G196 := S196 fuel
noncomputable def C196 : Fun := H196 F196
theorem C196_all : ∀ k, QuietOk Tryz.prog 196 (H196 (S196 k))
  | 0 => QuietOk.none Tryz.func196 (by rfl) (by decide) fun _ => rfl
  | k + 1 => K196_ok (S196 k) (C196_all k)
theorem C196_ok : QuietOk Tryz.prog 196 C196 := C196_all fuel
noncomputable def F175 (a0 : D74) : Option (Bool × Unit) :=
 (cond (decide ((((List.length a0.2.2.1) : Nat) : Int) ≤ (65536 : Int)))
 (Option.bind (F196 a0 (5 : Int)) fun y0 =>
 (some (y0.1, ())))
 (some (false, ())))
noncomputable def C175 : Fun := ⟨[(.ro Y74)], [(.bool, .z)], fun z => F175 z.1⟩
noncomputable def E175 : Env := ⟨11, tyTab tys, oneTab ones, fnTab [(196, C196)], false, [], [(99999, [2], [])], none, [], []⟩
noncomputable def L175 : List (LoopS (Bool × Unit)) := []
theorem C175_ok : QuietOk Tryz.prog 175 C175 := tQ E175 L175 [] Tryz.func175 ty_ok (.cons C196_ok .nil) .nil
noncomputable def F143 (a0 : D74) : Option (Bool × Unit) :=
 (Option.bind (F175 a0) fun y0 =>
 (cond y0.1
 (some ((a0.1 == (5 : Int)), ()))
 (some (false, ()))))
noncomputable def C143 : Fun := ⟨[(.ro Y74)], [(.bool, .z)], fun z => F143 z.1⟩
noncomputable def E143 : Env := ⟨10, tyTab tys, oneTab ones, fnTab [(175, C175)], false, [], [(99999, [2], [])], none, [], []⟩
noncomputable def L143 : List (LoopS (Bool × Unit)) := []
theorem C143_ok : QuietOk Tryz.prog 143 C143 := tQ E143 L143 [] Tryz.func143 ty_ok (.cons C175_ok .nil) .nil
noncomputable def F176_R3 (e0_0 : D74 × Unit → Option (D74 × Bool × Unit)) (er_1 : Bool × D74 × Unit → Option (D74 × Bool × Unit)) (rec : List UInt8 × List (D268) × Int × D74 × Unit → Option (D74 × Bool × Unit)) (x3 : List UInt8 × List (D268) × Int × D74 × Unit) : Option (D74 × Bool × Unit) :=
 (cond (decide (x3.2.2.1 < (((List.length x3.2.1) : Nat) : Int)))
 (gd (decide ((0 : Int) ≤ x3.2.2.1))
 (Option.bind x3.2.1[(Int.toNat x3.2.2.1)]? fun y6 =>
 (cond (y6.1 == x3.1)
 (gd (decide ((0 : Int) ≤ x3.2.2.1))
 (Option.bind x3.2.1[(Int.toNat x3.2.2.1)]? fun y7 =>
 (er_1 (true, y7.2.1, ()))))
 (rec (x3.1, x3.2.1, (IntKind.wrap IntKind.i64 (x3.2.2.1 + (1 : Int))), x3.2.2.2.1, ())))))
 (e0_0 (x3.2.2.2.1, ())))
noncomputable def F176 (a0 : D74) (a1 : List UInt8) : Option (D74 × Bool × Unit) :=
 (Option.bind (F197 a0.2.2.1) fun y0 =>
 (iter (F176_R3
 (fun y8 =>
 (some (((0 : Int), ((0 : Int), ([], ()))), (false, ()))))
 (fun y9 =>
 (some (y9.2.1, (y9.1, ()))))) fuel (a1, y0.1, (0 : Int), ((0 : Int), ((0 : Int), ([], ()))), ())))
noncomputable def C176 : Fun := ⟨[(.ro Y74), (.ro .str)], [(Y74, .z), (.bool, .z)], fun z => F176 z.1 z.2.1⟩
noncomputable def E176 : Env := ⟨34, tyTab tys, oneTab ones, fnTab [(197, C197)], false, [], [(3, [1, 4, 6, 8], []), (4, [1, 4, 6, 8], []), (5, [1, 4, 6, 8], []), (7, [4], []), (100000, [4], []), (100001, [1, 4, 6, 8], []), (99999, [4, 5], [])], none, [], []⟩
noncomputable def L176 : List (LoopS (D74 × Bool × Unit)) := [⟨3, ⟨[(1, (.pv .str)), (4, (.ptr 32 [])), (6, (.pv (.slice Y268))), (8, (.pv (.int .i64)))], [(32, (.data true Y74 .z))]⟩, fun κ => F176_R3 (fun y => κ.exit 0 (SSh.mk' ⟨[(4, (.ptr 32 []))], [(32, (.data true Y74 .z))]⟩ y)) (fun y => κ.ret (SSh.mk' ⟨[(4, (.ptr 32 [])), (5, (.pv .bool))], [(32, (.data true Y74 .z))]⟩ y))⟩]
theorem L176_3 : RoundEq E176 L176 L176[0] (nthLoop (codeOf Tryz.f176) 0) := fun κ N x => by kernel_rfl
theorem C176_ok : QuietOk Tryz.prog 176 C176 := tQ E176 L176 [nthLoop (codeOf Tryz.f176) 0] Tryz.func176 ty_ok (.cons C197_ok .nil) (.cons L176[0] (by kernel_rfl) L176_3 .nil)
noncomputable def F144 (a0 : D74) : Option (Int × Unit) :=
 (Option.bind (F176 a0 [(105 : UInt8), (100 : UInt8)]) fun y0 =>
 (cond (!y0.2.1)
 (some ((-(1 : Int)), ()))
 (cond (y0.1.1 != (2 : Int))
 (some ((-(1 : Int)), ()))
 (Option.bind (F44 y0.1.2.1 (0 : Int) (99 : Int)) fun y2 =>
 (cond (!y2.1)
 (some ((-(1 : Int)), ()))
 (some (y0.1.2.1, ())))))))
noncomputable def C144 : Fun := ⟨[(.ro Y74)], [((.int .i64), .z)], fun z => F144 z.1⟩
noncomputable def E144 : Env := ⟨25, tyTab tys, oneTab ones, fnTab [(44, C44), (176, C176)], false, [], [(4, [3], []), (99999, [2], [])], none, [], []⟩
noncomputable def L144 : List (LoopS (Int × Unit)) := []
theorem C144_ok : QuietOk Tryz.prog 144 C144 := tQ E144 L144 [] Tryz.func144 ty_ok (.cons C44_ok (.cons C176_ok .nil)) .nil
noncomputable def F109 (a0 : Int) (a1 : Bool) (a2 : D74) : Option (Bool × Unit) :=
 (cond a1
 (some (((decide (a2.1 = (0 : Int))) && ((decide (a2.2.1 = (0 : Int))) && ((a2.2.2.1 == []) && true))), ()))
 (Option.bind (F143 a2) fun y1 =>
 (cond y1.1
 (Option.bind (F144 a2) fun y2 =>
 (some ((y2.1 == a0), ())))
 (some (false, ())))))
noncomputable def C109 : Fun := ⟨[(.ro (.int .i64)), (.ro .bool), (.ro Y74)], [(.bool, .z)], fun z => F109 z.1 z.2.1 z.2.2.1⟩
noncomputable def E109 : Env := ⟨19, tyTab tys, oneTab ones, fnTab [(143, C143), (144, C144)], false, [], [(3, [0, 5], []), (99999, [6], [])], none, [], []⟩
noncomputable def L109 : List (LoopS (Bool × Unit)) := []
theorem C109_ok : QuietOk Tryz.prog 109 C109 := tQ E109 L109 [] Tryz.func109 ty_ok (.cons C143_ok (.cons C144_ok .nil)) .nil
noncomputable def F76_R9 (e2_0 : Int × D55 × Unit → Option (Bool × Unit)) (er_1 : Bool × Unit → Option (Bool × Unit)) (rec : Int × Int × D55 × Unit → Option (Bool × Unit)) (x11 : Int × Int × D55 × Unit) : Option (Bool × Unit) :=
 (cond (decide (x11.2.1 < x11.1))
 (gd (decide ((0 : Int) ≤ x11.2.1))
 (Option.bind x11.2.2.1.2.2.1[(Int.toNat x11.2.1)]? fun y14 =>
 (gd (decide ((0 : Int) ≤ x11.1))
 (Option.bind x11.2.2.1.2.2.1[(Int.toNat x11.1)]? fun y15 =>
 (cond (y14.1 == y15.1)
 (er_1 (false, ()))
 (rec (x11.1, (IntKind.wrap IntKind.i64 (x11.2.1 + (1 : Int))), x11.2.2.1, ())))))))
 (e2_0 (x11.1, x11.2.2.1, ())))
noncomputable def F76_R4 (e0_0 : D55 × Unit → Option (Bool × Unit)) (er_1 : Bool × Unit → Option (Bool × Unit)) (rec : Int × D55 × Unit → Option (Bool × Unit)) (x4 : Int × D55 × Unit) : Option (Bool × Unit) :=
 (cond (decide (x4.1 < (((List.length x4.2.1.2.2.1) : Nat) : Int)))
 (gd (decide ((0 : Int) ≤ x4.1))
 (Option.bind x4.2.1.2.2.1[(Int.toNat x4.1)]? fun y8 =>
 (Option.bind (F108 y8) fun y9 =>
 (cond (!y9.1)
 (er_1 (false, ()))
 (iter (F76_R9
 (fun y16 =>
 (rec ((IntKind.wrap IntKind.i64 (y16.1 + (1 : Int))), y16.2.1, ())))
 (fun y17 =>
 (er_1 (y17.1, ())))) fuel (x4.1, (0 : Int), x4.2.1, ()))))))
 (e0_0 (x4.2.1, ())))
noncomputable def F76_R20 (e6_0 : Int × D55 × Unit → Option (Bool × Unit)) (er_1 : Bool × Unit → Option (Bool × Unit)) (rec : Int × Int × D55 × D58 × Unit → Option (Bool × Unit)) (x34 : Int × Int × D55 × D58 × Unit) : Option (Bool × Unit) :=
 (cond (decide (x34.2.1 < (((List.length x34.2.2.2.1.2.1) : Nat) : Int)))
 (let j42 : Int × Int × D55 × D58 × Unit → Option (Bool × Unit) := fun (y43 : Int × Int × D55 × D58 × Unit) =>
 (rec (y43.1, (IntKind.wrap IntKind.i64 (y43.2.1 + (1 : Int))), y43.2.2.1, y43.2.2.2.1, ()))
 (gd (decide ((0 : Int) ≤ x34.2.1))
 (Option.bind x34.2.2.2.1.2.1[(Int.toNat x34.2.1)]? fun y37 =>
 (Option.bind (F44 y37.1 (1 : Int) (10000 : Int)) fun y38 =>
 (cond (!y38.1)
 (er_1 (false, ()))
 (cond (decide (x34.2.1 > (0 : Int)))
 (gd (decide ((0 : Int) ≤ (IntKind.wrap IntKind.i64 (x34.2.1 - (1 : Int)))))
 (Option.bind x34.2.2.2.1.2.1[(Int.toNat (IntKind.wrap IntKind.i64 (x34.2.1 - (1 : Int))))]? fun y39 =>
 (cond (decide (y39.1 ≥ y37.1))
 (er_1 (false, ()))
 (Option.bind (F109 x34.2.2.2.1.1 y37.2.1 y37.2.2.1) fun y40 =>
 (cond (!y40.1)
 (er_1 (false, ()))
 (j42 (x34.1, x34.2.1, x34.2.2.1, x34.2.2.2.1, ())))))))
 (Option.bind (F109 x34.2.2.2.1.1 y37.2.1 y37.2.2.1) fun y41 =>
 (cond (!y41.1)
 (er_1 (false, ()))
 (j42 (x34.1, x34.2.1, x34.2.2.1, x34.2.2.2.1, ()))))))))))
 (e6_0 (x34.1, x34.2.2.1, ())))
noncomputable def F76_R14 (e4_0 : Unit → Option (Bool × Unit)) (er_1 : Bool × Unit → Option (Bool × Unit)) (rec : Int × D55 × Unit → Option (Bool × Unit)) (x22 : Int × D55 × Unit) : Option (Bool × Unit) :=
 (cond (decide (x22.1 < (((List.length x22.2.1.2.1) : Nat) : Int)))
 (gd (decide ((0 : Int) ≤ x22.1))
 (Option.bind x22.2.1.2.1[(Int.toNat x22.1)]? fun y25 =>
 (let j31 : Int × D55 × D58 × Unit → Option (Bool × Unit) := fun (y32 : Int × D55 × D58 × Unit) =>
 (iter (F76_R20
 (fun y44 =>
 (rec ((IntKind.wrap IntKind.i64 (y44.1 + (1 : Int))), y44.2.1, ())))
 (fun y45 =>
 (er_1 (y45.1, ())))) fuel (y32.1, (0 : Int), y32.2.1, y32.2.2.1, ()))
 (Option.bind (F44 y25.1 (0 : Int) (19 : Int)) fun y27 =>
 (cond (!y27.1)
 (er_1 (false, ()))
 (cond (decide (x22.1 > (0 : Int)))
 (gd (decide ((0 : Int) ≤ (IntKind.wrap IntKind.i64 (x22.1 - (1 : Int)))))
 (Option.bind x22.2.1.2.1[(Int.toNat (IntKind.wrap IntKind.i64 (x22.1 - (1 : Int))))]? fun y28 =>
 (cond (decide (y28.1 ≥ y25.1))
 (er_1 (false, ()))
 (Option.bind (F44 (((List.length y25.2.1) : Nat) : Int) (1 : Int) (12 : Int)) fun y29 =>
 (cond (!y29.1)
 (er_1 (false, ()))
 (j31 (x22.1, x22.2.1, y25, ())))))))
 (Option.bind (F44 (((List.length y25.2.1) : Nat) : Int) (1 : Int) (12 : Int)) fun y30 =>
 (cond (!y30.1)
 (er_1 (false, ()))
 (j31 (x22.1, x22.2.1, y25, ()))))))))))
 (e4_0 (())))
noncomputable def F76 (a0 : D55) : Option (Bool × Unit) :=
 (Option.bind (F107 a0.1) fun y1 =>
 (cond (!y1.1)
 (some (false, ()))
 (cond (decide ((((List.length a0.2.1) : Nat) : Int) > (20 : Int)))
 (some (false, ()))
 (cond (decide ((((List.length a0.2.2.1) : Nat) : Int) > (3 : Int)))
 (some (false, ()))
 (iter (F76_R4
 (fun y18 =>
 (iter (F76_R14
 (fun y46 =>
 (some (true, ())))
 (fun y47 =>
 (some (y47.1, ())))) fuel ((0 : Int), y18.1, ())))
 (fun y19 =>
 (some (y19.1, ())))) fuel ((0 : Int), a0, ()))))))
noncomputable def C76 : Fun := ⟨[(.ro Y55)], [(.bool, .z)], fun z => F76 z.1⟩
noncomputable def E76 : Env := ⟨138, tyTab tys, oneTab ones, fnTab [(44, C44), (107, C107), (108, C108), (109, C109)], false, [], [(3, [1], []), (4, [1, 3], []), (5, [1, 3], []), (6, [1, 3], []), (8, [1, 3], []), (9, [1, 3, 4], []), (10, [1, 3, 4], []), (11, [1, 3, 4], []), (13, [1], []), (14, [1, 5], []), (15, [1, 5], []), (16, [1, 5], []), (19, [1, 5, 6], []), (20, [1, 5, 6, 7], []), (21, [1, 5, 6, 7], []), (22, [1, 5, 6, 7], []), (25, [], []), (100000, [1], []), (100001, [1, 3], []), (100002, [1, 3], []), (100003, [1, 3, 4], []), (100004, [], []), (100005, [1, 5], []), (100006, [1, 5], []), (100007, [1, 5, 6, 7], []), (99999, [2], [])], none, [], []⟩
noncomputable def L76 : List (LoopS (Bool × Unit)) := [⟨9, ⟨[(1, (.ptr 8 [])), (3, (.pv (.int .i64))), (4, (.pv (.int .i64)))], [(8, (.data true Y55 .z))]⟩, fun κ => F76_R9 (fun y => κ.exit 2 (SSh.mk' ⟨[(1, (.ptr 8 [])), (3, (.pv (.int .i64)))], [(8, (.data true Y55 .z))]⟩ y)) (fun y => κ.ret (SSh.mk' ⟨[(2, (.pv .bool))], []⟩ y))⟩,
  ⟨4, ⟨[(1, (.ptr 8 [])), (3, (.pv (.int .i64)))], [(8, (.data true Y55 .z))]⟩, fun κ => F76_R4 (fun y => κ.exit 0 (SSh.mk' ⟨[(1, (.ptr 8 []))], [(8, (.data true Y55 .z))]⟩ y)) (fun y => κ.ret (SSh.mk' ⟨[(2, (.pv .bool))], []⟩ y))⟩,
  ⟨20, ⟨[(1, (.ptr 8 [])), (5, (.pv (.int .i64))), (6, (.ptr 48 [])), (7, (.pv (.int .i64)))], [(8, (.data true Y55 .z)), (48, (.data true Y58 .z))]⟩, fun κ => F76_R20 (fun y => κ.exit 6 (SSh.mk' ⟨[(1, (.ptr 8 [])), (5, (.pv (.int .i64)))], [(8, (.data true Y55 .z))]⟩ y)) (fun y => κ.ret (SSh.mk' ⟨[(2, (.pv .bool))], []⟩ y))⟩,
  ⟨14, ⟨[(1, (.ptr 8 [])), (5, (.pv (.int .i64)))], [(8, (.data true Y55 .z))]⟩, fun κ => F76_R14 (fun y => κ.exit 4 (SSh.mk' ⟨[], []⟩ y)) (fun y => κ.ret (SSh.mk' ⟨[(2, (.pv .bool))], []⟩ y))⟩]
theorem L76_20 : RoundEq E76 L76 L76[2] (nthLoop (codeOf Tryz.f76) 3) := fun κ N x => by kernel_rfl
theorem L76_14 : RoundEq E76 L76 L76[3] (nthLoop (codeOf Tryz.f76) 2) := fun κ N x => by kernel_rfl
theorem L76_9 : RoundEq E76 L76 L76[0] (nthLoop (codeOf Tryz.f76) 1) := fun κ N x => by kernel_rfl
theorem L76_4 : RoundEq E76 L76 L76[1] (nthLoop (codeOf Tryz.f76) 0) := fun κ N x => by kernel_rfl
theorem C76_ok : QuietOk Tryz.prog 76 C76 := tQ E76 L76 [nthLoop (codeOf Tryz.f76) 0, nthLoop (codeOf Tryz.f76) 1, nthLoop (codeOf Tryz.f76) 2, nthLoop (codeOf Tryz.f76) 3] Tryz.func76 ty_ok (.cons C44_ok (.cons C107_ok (.cons C108_ok (.cons C109_ok .nil)))) (.cons L76[1] (by kernel_rfl) L76_4 (.cons L76[0] (by kernel_rfl) L76_9 (.cons L76[3] (by kernel_rfl) L76_14 (.cons L76[2] (by kernel_rfl) L76_20 .nil))))
noncomputable def F45_R2 (e0_0 : List (D55) × Unit → Option (Bool × Unit)) (er_1 : Bool × Unit → Option (Bool × Unit)) (rec : List (D55) × Int × Unit → Option (Bool × Unit)) (x2 : List (D55) × Int × Unit) : Option (Bool × Unit) :=
 (cond (decide (x2.2.1 < (((List.length x2.1) : Nat) : Int)))
 (let j9 : List (D55) × Int × Unit → Option (Bool × Unit) := fun (y10 : List (D55) × Int × Unit) =>
 (rec (y10.1, (IntKind.wrap IntKind.i64 (y10.2.1 + (1 : Int))), ()))
 (gd (decide ((0 : Int) ≤ x2.2.1))
 (Option.bind x2.1[(Int.toNat x2.2.1)]? fun y5 =>
 (Option.bind (F76 y5) fun y6 =>
 (cond (!y6.1)
 (er_1 (false, ()))
 (cond (decide (x2.2.1 > (0 : Int)))
 (gd (decide ((0 : Int) ≤ (IntKind.wrap IntKind.i64 (x2.2.1 - (1 : Int)))))
 (Option.bind x2.1[(Int.toNat (IntKind.wrap IntKind.i64 (x2.2.1 - (1 : Int))))]? fun y7 =>
 (gd (decide ((0 : Int) ≤ x2.2.1))
 (Option.bind x2.1[(Int.toNat x2.2.1)]? fun y8 =>
 (cond (!(Op.bytesLess y7.1 y8.1))
 (er_1 (false, ()))
 (j9 (x2.1, x2.2.1, ())))))))
 (j9 (x2.1, x2.2.1, ()))))))))
 (e0_0 (x2.1, ())))
noncomputable def F45 (a0 : List (D55)) : Option (Bool × Unit) :=
 (iter (F45_R2
 (fun y11 =>
 (some ((decide ((((List.length y11.1) : Nat) : Int) ≤ (3 : Int))), ())))
 (fun y12 =>
 (some (y12.1, ())))) fuel (a0, (0 : Int), ()))
noncomputable def C45 : Fun := ⟨[(.ro (.slice Y55))], [(.bool, .z)], fun z => F45 z.1⟩
noncomputable def E45 : Env := ⟨37, tyTab tys, oneTab ones, fnTab [(76, C76)], false, [], [(2, [0, 3], []), (3, [0, 3], []), (4, [0, 3], []), (6, [0], []), (100000, [0], []), (100001, [0, 3], []), (99999, [2], [])], none, [], []⟩
noncomputable def L45 : List (LoopS (Bool × Unit)) := [⟨2, ⟨[(0, (.pv (.slice Y55))), (3, (.pv (.int .i64)))], []⟩, fun κ => F45_R2 (fun y => κ.exit 0 (SSh.mk' ⟨[(0, (.pv (.slice Y55)))], []⟩ y)) (fun y => κ.ret (SSh.mk' ⟨[(2, (.pv .bool))], []⟩ y))⟩]
theorem L45_2 : RoundEq E45 L45 L45[0] (nthLoop (codeOf Tryz.f45) 0) := fun κ N x => by kernel_rfl
theorem C45_ok : QuietOk Tryz.prog 45 C45 := tQ E45 L45 [nthLoop (codeOf Tryz.f45) 0] Tryz.func45 ty_ok (.cons C76_ok .nil) (.cons L45[0] (by kernel_rfl) L45_2 .nil)
noncomputable def F146 (a0 : D222) : Option (Bool × Unit) :=
 (cond (decide ((((List.length a0.2.1) : Nat) : Int) > (65536 : Int)))
 (some (false, ()))
 (Option.bind (F142 a0.2.1) fun y1 =>
 (cond (!y1.1)
 (some (false, ()))
 (Option.bind (F175 a0.2.2.1) fun y2 =>
 (cond (!y2.1)
 (some (false, ()))
 (let j11 : Unit → Option (Bool × Unit) := fun (y12 : Unit) =>
 (some (false, ()))
 (cond (a0.1 == (1 : Int))
 (cond (a0.1 == (1 : Int))
 (some (true, ()))
 (cond (a0.1 == (7 : Int))
 (some ((a0.2.2.1.1 == (4 : Int)), ()))
 (cond (a0.1 == (8 : Int))
 (some ((a0.2.2.1.1 == (1 : Int)), ()))
 (cond (a0.1 == (9 : Int))
 (cond (a0.2.2.1.1 == (2 : Int))
 (Option.bind (F44 a0.2.2.1.2.1 (0 : Int) (5 : Int)) fun y5 =>
 (some (y5.1, ())))
 (some (false, ())))
 (cond (a0.1 == (10 : Int))
 (cond (a0.2.2.1.1 == (2 : Int))
 (some ((decide (a0.2.2.1.2.1 ≥ (0 : Int))), ()))
 (some (false, ())))
 (j11 (())))))))
 (cond (a0.1 == (2 : Int))
 (cond (a0.1 == (2 : Int))
 (some (true, ()))
 (cond (a0.1 == (7 : Int))
 (some ((a0.2.2.1.1 == (4 : Int)), ()))
 (cond (a0.1 == (8 : Int))
 (some ((a0.2.2.1.1 == (1 : Int)), ()))
 (cond (a0.1 == (9 : Int))
 (cond (a0.2.2.1.1 == (2 : Int))
 (Option.bind (F44 a0.2.2.1.2.1 (0 : Int) (5 : Int)) fun y6 =>
 (some (y6.1, ())))
 (some (false, ())))
 (cond (a0.1 == (10 : Int))
 (cond (a0.2.2.1.1 == (2 : Int))
 (some ((decide (a0.2.2.1.2.1 ≥ (0 : Int))), ()))
 (some (false, ())))
 (j11 (())))))))
 (cond (a0.1 == (3 : Int))
 (cond (a0.1 == (3 : Int))
 (some (true, ()))
 (cond (a0.1 == (7 : Int))
 (some ((a0.2.2.1.1 == (4 : Int)), ()))
 (cond (a0.1 == (8 : Int))
 (some ((a0.2.2.1.1 == (1 : Int)), ()))
 (cond (a0.1 == (9 : Int))
 (cond (a0.2.2.1.1 == (2 : Int))
 (Option.bind (F44 a0.2.2.1.2.1 (0 : Int) (5 : Int)) fun y7 =>
 (some (y7.1, ())))
 (some (false, ())))
 (cond (a0.1 == (10 : Int))
 (cond (a0.2.2.1.1 == (2 : Int))
 (some ((decide (a0.2.2.1.2.1 ≥ (0 : Int))), ()))
 (some (false, ())))
 (j11 (())))))))
 (cond (a0.1 == (4 : Int))
 (cond (a0.1 == (4 : Int))
 (some (true, ()))
 (cond (a0.1 == (7 : Int))
 (some ((a0.2.2.1.1 == (4 : Int)), ()))
 (cond (a0.1 == (8 : Int))
 (some ((a0.2.2.1.1 == (1 : Int)), ()))
 (cond (a0.1 == (9 : Int))
 (cond (a0.2.2.1.1 == (2 : Int))
 (Option.bind (F44 a0.2.2.1.2.1 (0 : Int) (5 : Int)) fun y8 =>
 (some (y8.1, ())))
 (some (false, ())))
 (cond (a0.1 == (10 : Int))
 (cond (a0.2.2.1.1 == (2 : Int))
 (some ((decide (a0.2.2.1.2.1 ≥ (0 : Int))), ()))
 (some (false, ())))
 (j11 (())))))))
 (cond (a0.1 == (5 : Int))
 (cond (a0.1 == (5 : Int))
 (some (true, ()))
 (cond (a0.1 == (7 : Int))
 (some ((a0.2.2.1.1 == (4 : Int)), ()))
 (cond (a0.1 == (8 : Int))
 (some ((a0.2.2.1.1 == (1 : Int)), ()))
 (cond (a0.1 == (9 : Int))
 (cond (a0.2.2.1.1 == (2 : Int))
 (Option.bind (F44 a0.2.2.1.2.1 (0 : Int) (5 : Int)) fun y9 =>
 (some (y9.1, ())))
 (some (false, ())))
 (cond (a0.1 == (10 : Int))
 (cond (a0.2.2.1.1 == (2 : Int))
 (some ((decide (a0.2.2.1.2.1 ≥ (0 : Int))), ()))
 (some (false, ())))
 (j11 (())))))))
 (cond (a0.1 == (6 : Int))
 (some (true, ()))
 (cond (a0.1 == (7 : Int))
 (some ((a0.2.2.1.1 == (4 : Int)), ()))
 (cond (a0.1 == (8 : Int))
 (some ((a0.2.2.1.1 == (1 : Int)), ()))
 (cond (a0.1 == (9 : Int))
 (cond (a0.2.2.1.1 == (2 : Int))
 (Option.bind (F44 a0.2.2.1.2.1 (0 : Int) (5 : Int)) fun y10 =>
 (some (y10.1, ())))
 (some (false, ())))
 (cond (a0.1 == (10 : Int))
 (cond (a0.2.2.1.1 == (2 : Int))
 (some ((decide (a0.2.2.1.2.1 ≥ (0 : Int))), ()))
 (some (false, ())))
 (j11 (()))))))))))))))))))
noncomputable def C146 : Fun := ⟨[(.ro Y222)], [(.bool, .z)], fun z => F146 z.1⟩
noncomputable def E146 : Env := ⟨64, tyTab tys, oneTab ones, fnTab [(44, C44), (142, C142), (175, C175)], false, [], [(3, [1], []), (19, [], []), (100000, [], []), (99999, [2], [])], none, [], []⟩
noncomputable def L146 : List (LoopS (Bool × Unit)) := []
theorem C146_ok : QuietOk Tryz.prog 146 C146 := tQ E146 L146 [] Tryz.func146 ty_ok (.cons C44_ok (.cons C142_ok (.cons C175_ok .nil))) .nil
noncomputable def F111_R9 (e2_0 : Int × D137 × Unit → Option (Bool × Unit)) (er_1 : Bool × Unit → Option (Bool × Unit)) (rec : Int × Int × D137 × Unit → Option (Bool × Unit)) (x10 : Int × Int × D137 × Unit) : Option (Bool × Unit) :=
 (gd (decide ((0 : Int) ≤ x10.1))
 (Option.bind x10.2.2.1.1[(Int.toNat x10.1)]? fun y12 =>
 (cond (decide (x10.2.1 < (((List.length y12.1) : Nat) : Int)))
 (gd (decide ((0 : Int) ≤ x10.1))
 (Option.bind x10.2.2.1.1[(Int.toNat x10.1)]? fun y14 =>
 (gd (decide ((0 : Int) ≤ x10.2.1))
 (Option.bind y14.1[(Int.toNat x10.2.1)]? fun y15 =>
 (Option.bind (F146 y15) fun y16 =>
 (cond (!y16.1)
 (er_1 (false, ()))
 (rec (x10.1, (IntKind.wrap IntKind.i64 (x10.2.1 + (1 : Int))), x10.2.2.1, ()))))))))
 (e2_0 (x10.1, x10.2.2.1, ())))))
noncomputable def F111_R4 (e0_0 : Unit → Option (Bool × Unit)) (er_1 : Bool × Unit → Option (Bool × Unit)) (rec : Int × D137 × Unit → Option (Bool × Unit)) (x4 : Int × D137 × Unit) : Option (Bool × Unit) :=
 (cond (decide (x4.1 < (((List.length x4.2.1.1) : Nat) : Int)))
 (gd (decide ((0 : Int) ≤ x4.1))
 (Option.bind x4.2.1.1[(Int.toNat x4.1)]? fun y8 =>
 (cond (decide ((((List.length y8.1) : Nat) : Int) > (4 : Int)))
 (er_1 (false, ()))
 (iter (F111_R9
 (fun y17 =>
 (rec ((IntKind.wrap IntKind.i64 (y17.1 + (1 : Int))), y17.2.1, ())))
 (fun y18 =>
 (er_1 (y18.1, ())))) fuel (x4.1, (0 : Int), x4.2.1, ())))))
 (e0_0 (())))
noncomputable def F111 (a0 : D137) : Option (Bool × Unit) :=
 (Option.bind (F44 (((List.length a0.1) : Nat) : Int) (1 : Int) (3 : Int)) fun y1 =>
 (cond (!y1.1)
 (some (false, ()))
 (iter (F111_R4
 (fun y19 =>
 (some (true, ())))
 (fun y20 =>
 (some (y20.1, ())))) fuel ((0 : Int), a0, ()))))
noncomputable def C111 : Fun := ⟨[(.ro Y137)], [(.bool, .z)], fun z => F111 z.1⟩
noncomputable def E111 : Env := ⟨47, tyTab tys, oneTab ones, fnTab [(44, C44), (146, C146)], false, [], [(3, [1], []), (4, [1, 3], []), (5, [1, 3], []), (6, [1, 3], []), (8, [1, 3], []), (9, [1, 3, 4], []), (10, [1, 3, 4], []), (11, [1, 3, 4], []), (13, [], []), (100000, [], []), (100001, [1, 3], []), (100002, [1, 3], []), (100003, [1, 3, 4], []), (99999, [2], [])], none, [], []⟩
noncomputable def L111 : List (LoopS (Bool × Unit)) := [⟨9, ⟨[(1, (.ptr 8 [])), (3, (.pv (.int .i64))), (4, (.pv (.int .i64)))], [(8, (.data true Y137 .z))]⟩, fun κ => F111_R9 (fun y => κ.exit 2 (SSh.mk' ⟨[(1, (.ptr 8 [])), (3, (.pv (.int .i64)))], [(8, (.data true Y137 .z))]⟩ y)) (fun y => κ.ret (SSh.mk' ⟨[(2, (.pv .bool))], []⟩ y))⟩,
  ⟨4, ⟨[(1, (.ptr 8 [])), (3, (.pv (.int .i64)))], [(8, (.data true Y137 .z))]⟩, fun κ => F111_R4 (fun y => κ.exit 0 (SSh.mk' ⟨[], []⟩ y)) (fun y => κ.ret (SSh.mk' ⟨[(2, (.pv .bool))], []⟩ y))⟩]
theorem L111_9 : RoundEq E111 L111 L111[0] (nthLoop (codeOf Tryz.f111) 1) := fun κ N x => by kernel_rfl
theorem L111_4 : RoundEq E111 L111 L111[1] (nthLoop (codeOf Tryz.f111) 0) := fun κ N x => by kernel_rfl
theorem C111_ok : QuietOk Tryz.prog 111 C111 := tQ E111 L111 [nthLoop (codeOf Tryz.f111) 0, nthLoop (codeOf Tryz.f111) 1] Tryz.func111 ty_ok (.cons C44_ok (.cons C146_ok .nil)) (.cons L111[1] (by kernel_rfl) L111_4 (.cons L111[0] (by kernel_rfl) L111_9 .nil))
noncomputable def F78 (a0 : D139) : Option (Bool × Unit) :=
 (Option.bind (F107 a0.1) fun y0 =>
 (cond y0.1
 (Option.bind (F111 a0.2.1) fun y1 =>
 (some (y1.1, ())))
 (some (false, ()))))
noncomputable def C78 : Fun := ⟨[(.ro Y139)], [(.bool, .z)], fun z => F78 z.1⟩
noncomputable def E78 : Env := ⟨11, tyTab tys, oneTab ones, fnTab [(107, C107), (111, C111)], false, [], [(99999, [2], [])], none, [], []⟩
noncomputable def L78 : List (LoopS (Bool × Unit)) := []
theorem C78_ok : QuietOk Tryz.prog 78 C78 := tQ E78 L78 [] Tryz.func78 ty_ok (.cons C107_ok (.cons C111_ok .nil)) .nil
noncomputable def F79 (a0 : D101) : Option (Bool × Unit) :=
 (Option.bind (F107 a0.1) fun y0 =>
 (cond y0.1
 (Option.bind (F44 a0.2.1 (0 : Int) (19 : Int)) fun y1 =>
 (cond y1.1
 (Option.bind (F109 a0.2.1 a0.2.2.1 a0.2.2.2.1) fun y2 =>
 (some (y2.1, ())))
 (some (false, ()))))
 (some (false, ()))))
noncomputable def C79 : Fun := ⟨[(.ro Y101)], [(.bool, .z)], fun z => F79 z.1⟩
noncomputable def E79 : Env := ⟨20, tyTab tys, oneTab ones, fnTab [(44, C44), (107, C107), (109, C109)], false, [], [(99999, [2], [])], none, [], []⟩
noncomputable def L79 : List (LoopS (Bool × Unit)) := []
theorem C79_ok : QuietOk Tryz.prog 79 C79 := tQ E79 L79 [] Tryz.func79 ty_ok (.cons C44_ok (.cons C107_ok (.cons C109_ok .nil))) .nil
noncomputable def F145 (a0 : D162) : Option (Bool × Unit) :=
 (Option.bind (F79 a0.1) fun y0 =>
 (cond y0.1
 (Option.bind (F109 a0.1.2.1 (!a0.2.2.1) a0.2.1) fun y1 =>
 (some (y1.1, ())))
 (some (false, ()))))
noncomputable def C145 : Fun := ⟨[(.ro Y162)], [(.bool, .z)], fun z => F145 z.1⟩
noncomputable def E145 : Env := ⟨17, tyTab tys, oneTab ones, fnTab [(79, C79), (109, C109)], false, [], [(99999, [2], [])], none, [], []⟩
noncomputable def L145 : List (LoopS (Bool × Unit)) := []
theorem C145_ok : QuietOk Tryz.prog 145 C145 := tQ E145 L145 [] Tryz.func145 ty_ok (.cons C79_ok (.cons C109_ok .nil)) .nil
noncomputable def F110_R2 (e0_0 : List (D139) × List (D162) × Unit → Option (Bool × Unit)) (er_1 : Bool × Unit → Option (Bool × Unit)) (rec : List (D139) × List (D162) × Int × Unit → Option (Bool × Unit)) (x2 : List (D139) × List (D162) × Int × Unit) : Option (Bool × Unit) :=
 (cond (decide (x2.2.2.1 < (((List.length x2.1) : Nat) : Int)))
 (gd (decide ((0 : Int) ≤ x2.2.2.1))
 (Option.bind x2.1[(Int.toNat x2.2.2.1)]? fun y5 =>
 (Option.bind (F78 y5) fun y6 =>
 (cond (!y6.1)
 (er_1 (false, ()))
 (rec (x2.1, x2.2.1, (IntKind.wrap IntKind.i64 (x2.2.2.1 + (1 : Int))), ()))))))
 (e0_0 (x2.1, x2.2.1, ())))
noncomputable def F110_R12 (e4_0 : List (D139) × List (D162) × Int × Unit → Option (Bool × Unit)) (er_1 : Bool × Unit → Option (Bool × Unit)) (rec : List (D139) × List (D162) × Int × Int × Unit → Option (Bool × Unit)) (x18 : List (D139) × List (D162) × Int × Int × Unit) : Option (Bool × Unit) :=
 (cond (decide (x18.2.2.2.1 < x18.2.2.1))
 (let j25 : List (D139) × List (D162) × Int × Int × Unit → Option (Bool × Unit) := fun (y26 : List (D139) × List (D162) × Int × Int × Unit) =>
 (rec (y26.1, y26.2.1, y26.2.2.1, (IntKind.wrap IntKind.i64 (y26.2.2.2.1 + (1 : Int))), ()))
 (gd (decide ((0 : Int) ≤ x18.2.2.2.1))
 (Option.bind x18.2.1[(Int.toNat x18.2.2.2.1)]? fun y21 =>
 (gd (decide ((0 : Int) ≤ x18.2.2.1))
 (Option.bind x18.2.1[(Int.toNat x18.2.2.1)]? fun y22 =>
 (cond (y21.1.1 == y22.1.1)
 (gd (decide ((0 : Int) ≤ x18.2.2.2.1))
 (Option.bind x18.2.1[(Int.toNat x18.2.2.2.1)]? fun y23 =>
 (gd (decide ((0 : Int) ≤ x18.2.2.1))
 (Option.bind x18.2.1[(Int.toNat x18.2.2.1)]? fun y24 =>
 (cond (y23.1.2.1 == y24.1.2.1)
 (er_1 (false, ()))
 (j25 (x18.1, x18.2.1, x18.2.2.1, x18.2.2.2.1, ())))))))
 (j25 (x18.1, x18.2.1, x18.2.2.1, x18.2.2.2.1, ()))))))))
 (e4_0 (x18.1, x18.2.1, x18.2.2.1, ())))
noncomputable def F110_R7 (e2_0 : List (D139) × List (D162) × Unit → Option (Bool × Unit)) (er_1 : Bool × Unit → Option (Bool × Unit)) (rec : List (D139) × List (D162) × Int × Unit → Option (Bool × Unit)) (x11 : List (D139) × List (D162) × Int × Unit) : Option (Bool × Unit) :=
 (cond (decide (x11.2.2.1 < (((List.length x11.2.1) : Nat) : Int)))
 (gd (decide ((0 : Int) ≤ x11.2.2.1))
 (Option.bind x11.2.1[(Int.toNat x11.2.2.1)]? fun y15 =>
 (Option.bind (F145 y15) fun y16 =>
 (cond (!y16.1)
 (er_1 (false, ()))
 (iter (F110_R12
 (fun y27 =>
 (rec (y27.1, y27.2.1, (IntKind.wrap IntKind.i64 (y27.2.2.1 + (1 : Int))), ())))
 (fun y28 =>
 (er_1 (y28.1, ())))) fuel (x11.1, x11.2.1, x11.2.2.1, (0 : Int), ()))))))
 (e2_0 (x11.1, x11.2.1, ())))
noncomputable def F110 (a0 : List (D139)) (a1 : List (D162)) : Option (Bool × Unit) :=
 (iter (F110_R2
 (fun y7 =>
 (iter (F110_R7
 (fun y29 =>
 (cond (decide ((((List.length y29.1) : Nat) : Int) ≤ (20 : Int)))
 (some ((decide ((((List.length y29.2.1) : Nat) : Int) ≤ (60 : Int))), ()))
 (some (false, ()))))
 (fun y30 =>
 (some (y30.1, ())))) fuel (y7.1, y7.2.1, (0 : Int), ())))
 (fun y8 =>
 (some (y8.1, ())))) fuel (a0, a1, (0 : Int), ()))
noncomputable def C110 : Fun := ⟨[(.ro (.slice Y139)), (.ro (.slice Y162))], [(.bool, .z)], fun z => F110 z.1 z.2.1⟩
noncomputable def E110 : Env := ⟨73, tyTab tys, oneTab ones, fnTab [(78, C78), (145, C145)], false, [], [(2, [0, 1, 5], []), (3, [0, 1, 5], []), (4, [0, 1, 5], []), (6, [0, 1], []), (7, [0, 1, 6], []), (8, [0, 1, 6], []), (9, [0, 1, 6], []), (11, [0, 1, 6], []), (12, [0, 1, 6, 7], []), (13, [0, 1, 6, 7], []), (14, [0, 1, 6, 7], []), (16, [0, 1], []), (100000, [0, 1], []), (100001, [0, 1, 5], []), (100002, [0, 1], []), (100003, [0, 1, 6], []), (100004, [0, 1, 6], []), (100005, [0, 1, 6, 7], []), (99999, [4], [])], none, [], []⟩
noncomputable def L110 : List (LoopS (Bool × Unit)) := [⟨2, ⟨[(0, (.pv (.slice Y139))), (1, (.pv (.slice Y162))), (5, (.pv (.int .i64)))], []⟩, fun κ => F110_R2 (fun y => κ.exit 0 (SSh.mk' ⟨[(0, (.pv (.slice Y139))), (1, (.pv (.slice Y162)))], []⟩ y)) (fun y => κ.ret (SSh.mk' ⟨[(4, (.pv .bool))], []⟩ y))⟩,
  ⟨12, ⟨[(0, (.pv (.slice Y139))), (1, (.pv (.slice Y162))), (6, (.pv (.int .i64))), (7, (.pv (.int .i64)))], []⟩, fun κ => F110_R12 (fun y => κ.exit 4 (SSh.mk' ⟨[(0, (.pv (.slice Y139))), (1, (.pv (.slice Y162))), (6, (.pv (.int .i64)))], []⟩ y)) (fun y => κ.ret (SSh.mk' ⟨[(4, (.pv .bool))], []⟩ y))⟩,
  ⟨7, ⟨[(0, (.pv (.slice Y139))), (1, (.pv (.slice Y162))), (6, (.pv (.int .i64)))], []⟩, fun κ => F110_R7 (fun y => κ.exit 2 (SSh.mk' ⟨[(0, (.pv (.slice Y139))), (1, (.pv (.slice Y162)))], []⟩ y)) (fun y => κ.ret (SSh.mk' ⟨[(4, (.pv .bool))], []⟩ y))⟩]
theorem L110_12 : RoundEq E110 L110 L110[1] (nthLoop (codeOf Tryz.f110) 2) := fun κ N x => by kernel_rfl
theorem L110_7 : RoundEq E110 L110 L110[2] (nthLoop (codeOf Tryz.f110) 1) := fun κ N x => by kernel_rfl
theorem L110_2 : RoundEq E110 L110 L110[0] (nthLoop (codeOf Tryz.f110) 0) := fun κ N x => by kernel_rfl
theorem C110_ok : QuietOk Tryz.prog 110 C110 := tQ E110 L110 [nthLoop (codeOf Tryz.f110) 0, nthLoop (codeOf Tryz.f110) 1, nthLoop (codeOf Tryz.f110) 2] Tryz.func110 ty_ok (.cons C78_ok (.cons C145_ok .nil)) (.cons L110[0] (by kernel_rfl) L110_2 (.cons L110[2] (by kernel_rfl) L110_7 (.cons L110[1] (by kernel_rfl) L110_12 .nil)))
noncomputable def F77 (a0 : D89) : Option (Bool × Unit) :=
 (Option.bind (F44 a0.1 (0 : Int) (10000 : Int)) fun y0 =>
 (cond y0.1
 (Option.bind (F44 a0.2.1 (IntKind.wrap IntKind.i64 (a0.1 + (1 : Int))) (10000 : Int)) fun y1 =>
 (cond y1.1
 (Option.bind (F110 a0.2.2.1 a0.2.2.2.1) fun y2 =>
 (some (y2.1, ())))
 (some (false, ()))))
 (some (false, ()))))
noncomputable def C77 : Fun := ⟨[(.ro Y89)], [(.bool, .z)], fun z => F77 z.1⟩
noncomputable def E77 : Env := ⟨21, tyTab tys, oneTab ones, fnTab [(44, C44), (110, C110)], false, [], [(99999, [2], [])], none, [], []⟩
noncomputable def L77 : List (LoopS (Bool × Unit)) := []
theorem C77_ok : QuietOk Tryz.prog 77 C77 := tQ E77 L77 [] Tryz.func77 ty_ok (.cons C44_ok (.cons C110_ok .nil)) .nil
noncomputable def F46_R2 (e0_0 : List (D89) × Unit → Option (Bool × Unit)) (er_1 : Bool × Unit → Option (Bool × Unit)) (rec : List (D89) × Int × Unit → Option (Bool × Unit)) (x2 : List (D89) × Int × Unit) : Option (Bool × Unit) :=
 (cond (decide (x2.2.1 < (((List.length x2.1) : Nat) : Int)))
 (let j13 : List (D89) × Int × Unit → Option (Bool × Unit) := fun (y14 : List (D89) × Int × Unit) =>
 (rec (y14.1, (IntKind.wrap IntKind.i64 (y14.2.1 + (1 : Int))), ()))
 (gd (decide ((0 : Int) ≤ x2.2.1))
 (Option.bind x2.1[(Int.toNat x2.2.1)]? fun y5 =>
 (Option.bind (F77 y5) fun y6 =>
 (cond (!y6.1)
 (er_1 (false, ()))
 (cond (decide (x2.2.1 > (0 : Int)))
 (gd (decide ((0 : Int) ≤ (IntKind.wrap IntKind.i64 (x2.2.1 - (1 : Int)))))
 (Option.bind x2.1[(Int.toNat (IntKind.wrap IntKind.i64 (x2.2.1 - (1 : Int))))]? fun y7 =>
 (gd (decide ((0 : Int) ≤ x2.2.1))
 (Option.bind x2.1[(Int.toNat x2.2.1)]? fun y8 =>
 (cond (decide (y7.2.1 ≥ y8.2.1))
 (er_1 (false, ()))
 (gd (decide ((0 : Int) ≤ x2.2.1))
 (Option.bind x2.1[(Int.toNat x2.2.1)]? fun y9 =>
 (cond y9.2.2.2.2.1
 (gd (decide ((0 : Int) ≤ x2.2.1))
 (Option.bind x2.1[(Int.toNat x2.2.1)]? fun y10 =>
 (cond y10.2.2.2.2.2.1
 (er_1 (false, ()))
 (j13 (x2.1, x2.2.1, ())))))
 (j13 (x2.1, x2.2.1, ()))))))))))
 (gd (decide ((0 : Int) ≤ x2.2.1))
 (Option.bind x2.1[(Int.toNat x2.2.1)]? fun y11 =>
 (cond y11.2.2.2.2.1
 (gd (decide ((0 : Int) ≤ x2.2.1))
 (Option.bind x2.1[(Int.toNat x2.2.1)]? fun y12 =>
 (cond y12.2.2.2.2.2.1
 (er_1 (false, ()))
 (j13 (x2.1, x2.2.1, ())))))
 (j13 (x2.1, x2.2.1, ())))))))))))
 (e0_0 (x2.1, ())))
noncomputable def F46 (a0 : List (D89)) : Option (Bool × Unit) :=
 (iter (F46_R2
 (fun y15 =>
 (some ((decide ((((List.length y15.1) : Nat) : Int) ≤ (30 : Int))), ())))
 (fun y16 =>
 (some (y16.1, ())))) fuel (a0, (0 : Int), ()))
noncomputable def C46 : Fun := ⟨[(.ro (.slice Y89))], [(.bool, .z)], fun z => F46 z.1⟩
noncomputable def E46 : Env := ⟨51, tyTab tys, oneTab ones, fnTab [(77, C77)], false, [], [(2, [0, 3], []), (3, [0, 3], []), (4, [0, 3], []), (6, [0], []), (100000, [0], []), (100001, [0, 3], []), (99999, [2], [])], none, [], []⟩
noncomputable def L46 : List (LoopS (Bool × Unit)) := [⟨2, ⟨[(0, (.pv (.slice Y89))), (3, (.pv (.int .i64)))], []⟩, fun κ => F46_R2 (fun y => κ.exit 0 (SSh.mk' ⟨[(0, (.pv (.slice Y89)))], []⟩ y)) (fun y => κ.ret (SSh.mk' ⟨[(2, (.pv .bool))], []⟩ y))⟩]
theorem L46_2 : RoundEq E46 L46 L46[0] (nthLoop (codeOf Tryz.f46) 0) := fun κ N x => by kernel_rfl
theorem C46_ok : QuietOk Tryz.prog 46 C46 := tQ E46 L46 [nthLoop (codeOf Tryz.f46) 0] Tryz.func46 ty_ok (.cons C77_ok .nil) (.cons L46[0] (by kernel_rfl) L46_2 .nil)
noncomputable def F80 (a0 : D101) (a1 : D101) : Option (Bool × Unit) :=
 (cond (Op.bytesLess a0.1 a1.1)
 (some (true, ()))
 (cond (a0.1 == a1.1)
 (some ((decide (a0.2.1 < a1.2.1)), ()))
 (some (false, ()))))
noncomputable def C80 : Fun := ⟨[(.ro Y101), (.ro Y101)], [(.bool, .z)], fun z => F80 z.1 z.2.1⟩
noncomputable def E80 : Env := ⟨24, tyTab tys, oneTab ones, fnTab [], false, [], [(99999, [4], [])], none, [], []⟩
noncomputable def L80 : List (LoopS (Bool × Unit)) := []
theorem C80_ok : QuietOk Tryz.prog 80 C80 := tQ E80 L80 [] Tryz.func80 ty_ok .nil .nil
noncomputable def F47_R4 (e0_0 : D85 × Unit → Option (Bool × Unit)) (er_1 : Bool × Unit → Option (Bool × Unit)) (rec : Int × D85 × Unit → Option (Bool × Unit)) (x5 : Int × D85 × Unit) : Option (Bool × Unit) :=
 (cond (decide (x5.1 < (((List.length x5.2.1.2.2.1) : Nat) : Int)))
 (gd (decide ((0 : Int) ≤ x5.1))
 (Option.bind x5.2.1.2.2.1[(Int.toNat x5.1)]? fun y8 =>
 (Option.bind (F78 y8) fun y9 =>
 (cond (!y9.1)
 (er_1 (false, ()))
 (rec ((IntKind.wrap IntKind.i64 (x5.1 + (1 : Int))), x5.2.1, ()))))))
 (e0_0 (x5.2.1, ())))
noncomputable def F47_R9 (e2_0 : Unit → Option (Bool × Unit)) (er_1 : Bool × Unit → Option (Bool × Unit)) (rec : Int × D85 × Unit → Option (Bool × Unit)) (x14 : Int × D85 × Unit) : Option (Bool × Unit) :=
 (cond (decide (x14.1 < (((List.length x14.2.1.2.2.2.1) : Nat) : Int)))
 (let j22 : Int × D85 × Unit → Option (Bool × Unit) := fun (y23 : Int × D85 × Unit) =>
 (rec ((IntKind.wrap IntKind.i64 (y23.1 + (1 : Int))), y23.2.1, ()))
 (gd (decide ((0 : Int) ≤ x14.1))
 (Option.bind x14.2.1.2.2.2.1[(Int.toNat x14.1)]? fun y17 =>
 (Option.bind (F79 y17) fun y18 =>
 (cond (!y18.1)
 (er_1 (false, ()))
 (cond (decide (x14.1 > (0 : Int)))
 (gd (decide ((0 : Int) ≤ (IntKind.wrap IntKind.i64 (x14.1 - (1 : Int)))))
 (Option.bind x14.2.1.2.2.2.1[(Int.toNat (IntKind.wrap IntKind.i64 (x14.1 - (1 : Int))))]? fun y19 =>
 (gd (decide ((0 : Int) ≤ x14.1))
 (Option.bind x14.2.1.2.2.2.1[(Int.toNat x14.1)]? fun y20 =>
 (Option.bind (F80 y19 y20) fun y21 =>
 (cond (!y21.1)
 (er_1 (false, ()))
 (j22 (x14.1, x14.2.1, ()))))))))
 (j22 (x14.1, x14.2.1, ()))))))))
 (e2_0 (())))
noncomputable def F47 (a0 : D85) : Option (Bool × Unit) :=
 (Option.bind (F44 a0.1 (0 : Int) (3 : Int)) fun y1 =>
 (cond (!y1.1)
 (some (false, ()))
 (Option.bind (F44 a0.2.1 (0 : Int) (10000 : Int)) fun y2 =>
 (cond (!y2.1)
 (some (false, ()))
 (cond (decide ((((List.length a0.2.2.1) : Nat) : Int) > (20 : Int)))
 (some (false, ()))
 (cond (decide ((((List.length a0.2.2.2.1) : Nat) : Int) > (60 : Int)))
 (some (false, ()))
 (iter (F47_R4
 (fun y10 =>
 (iter (F47_R9
 (fun y24 =>
 (some (true, ())))
 (fun y25 =>
 (some (y25.1, ())))) fuel ((0 : Int), y10.1, ())))
 (fun y11 =>
 (some (y11.1, ())))) fuel ((0 : Int), a0, ()))))))))
noncomputable def C47 : Fun := ⟨[(.ro Y85)], [(.bool, .z)], fun z => F47 z.1⟩
noncomputable def E47 : Env := ⟨74, tyTab tys, oneTab ones, fnTab [(44, C44), (78, C78), (79, C79), (80, C80)], false, [], [(3, [1], []), (4, [1, 3], []), (5, [1, 3], []), (6, [1, 3], []), (8, [1], []), (9, [1, 4], []), (10, [1, 4], []), (11, [1, 4], []), (13, [], []), (100000, [1], []), (100001, [1, 3], []), (100002, [], []), (100003, [1, 4], []), (99999, [2], [])], none, [], []⟩
noncomputable def L47 : List (LoopS (Bool × Unit)) := [⟨4, ⟨[(1, (.ptr 8 [])), (3, (.pv (.int .i64)))], [(8, (.data true Y85 .z))]⟩, fun κ => F47_R4 (fun y => κ.exit 0 (SSh.mk' ⟨[(1, (.ptr 8 []))], [(8, (.data true Y85 .z))]⟩ y)) (fun y => κ.ret (SSh.mk' ⟨[(2, (.pv .bool))], []⟩ y))⟩,
  ⟨9, ⟨[(1, (.ptr 8 [])), (4, (.pv (.int .i64)))], [(8, (.data true Y85 .z))]⟩, fun κ => F47_R9 (fun y => κ.exit 2 (SSh.mk' ⟨[], []⟩ y)) (fun y => κ.ret (SSh.mk' ⟨[(2, (.pv .bool))], []⟩ y))⟩]
theorem L47_9 : RoundEq E47 L47 L47[1] (nthLoop (codeOf Tryz.f47) 1) := fun κ N x => by kernel_rfl
theorem L47_4 : RoundEq E47 L47 L47[0] (nthLoop (codeOf Tryz.f47) 0) := fun κ N x => by kernel_rfl
theorem C47_ok : QuietOk Tryz.prog 47 C47 := tQ E47 L47 [nthLoop (codeOf Tryz.f47) 0, nthLoop (codeOf Tryz.f47) 1] Tryz.func47 ty_ok (.cons C44_ok (.cons C78_ok (.cons C79_ok (.cons C80_ok .nil)))) (.cons L47[0] (by kernel_rfl) L47_4 (.cons L47[1] (by kernel_rfl) L47_9 .nil))
noncomputable def F22_R7 (e2_0 : Int × D25 × Unit → Option (Bool × Unit)) (er_1 : Bool × Unit → Option (Bool × Unit)) (rec : Int × Int × D25 × Unit → Option (Bool × Unit)) (x10 : Int × Int × D25 × Unit) : Option (Bool × Unit) :=
 (gd (decide ((0 : Int) ≤ x10.1))
 (Option.bind x10.2.2.1.1[(Int.toNat x10.1)]? fun y12 =>
 (cond (decide (x10.2.1 < (((List.length y12.2.1) : Nat) : Int)))
 (gd (decide ((0 : Int) ≤ x10.1))
 (Option.bind x10.2.2.1.1[(Int.toNat x10.1)]? fun y14 =>
 (gd (decide ((0 : Int) ≤ x10.2.1))
 (Option.bind y14.2.1[(Int.toNat x10.2.1)]? fun y15 =>
 (gd (decide ((0 : Int) ≤ (IntKind.wrap IntKind.i64 ((((List.length y15.2.1) : Nat) : Int) - (1 : Int)))))
 (Option.bind y15.2.1[(Int.toNat (IntKind.wrap IntKind.i64 ((((List.length y15.2.1) : Nat) : Int) - (1 : Int))))]? fun y16 =>
 (cond (decide (y16.1 > x10.2.2.1.2.2.2.1))
 (er_1 (false, ()))
 (rec (x10.1, (IntKind.wrap IntKind.i64 (x10.2.1 + (1 : Int))), x10.2.2.1, ())))))))))
 (e2_0 (x10.1, x10.2.2.1, ())))))
noncomputable def F22_R4 (e0_0 : D25 × Unit → Option (Bool × Unit)) (er_1 : Bool × Unit → Option (Bool × Unit)) (rec : Int × D25 × Unit → Option (Bool × Unit)) (x6 : Int × D25 × Unit) : Option (Bool × Unit) :=
 (cond (decide (x6.1 < (((List.length x6.2.1.1) : Nat) : Int)))
 (iter (F22_R7
 (fun y17 =>
 (rec ((IntKind.wrap IntKind.i64 (y17.1 + (1 : Int))), y17.2.1, ())))
 (fun y18 =>
 (er_1 (y18.1, ())))) fuel (x6.1, (0 : Int), x6.2.1, ()))
 (e0_0 (x6.2.1, ())))
noncomputable def F22_R18 (e6_0 : Int × D25 × Unit → Option (Bool × Unit)) (er_1 : Bool × Unit → Option (Bool × Unit)) (rec : Int × Int × D25 × Unit → Option (Bool × Unit)) (x35 : Int × Int × D25 × Unit) : Option (Bool × Unit) :=
 (gd (decide ((0 : Int) ≤ x35.1))
 (Option.bind x35.2.2.1.2.1[(Int.toNat x35.1)]? fun y37 =>
 (cond (decide (x35.2.1 < (((List.length y37.2.2.2.1) : Nat) : Int)))
 (gd (decide ((0 : Int) ≤ x35.1))
 (Option.bind x35.2.2.1.2.1[(Int.toNat x35.1)]? fun y39 =>
 (gd (decide ((0 : Int) ≤ x35.2.1))
 (Option.bind y39.2.2.2.1[(Int.toNat x35.2.1)]? fun y40 =>
 (Option.bind (F36 x35.2.2.1.1 y40.1) fun y41 =>
 (cond (decide (y41.1 < (0 : Int)))
 (er_1 (false, ()))
 (rec (x35.1, (IntKind.wrap IntKind.i64 (x35.2.1 + (1 : Int))), x35.2.2.1, ()))))))))
 (e6_0 (x35.1, x35.2.2.1, ())))))
noncomputable def F22_R13 (e4_0 : D25 × Unit → Option (Bool × Unit)) (er_1 : Bool × Unit → Option (Bool × Unit)) (rec : Int × D25 × Unit → Option (Bool × Unit)) (x23 : Int × D25 × Unit) : Option (Bool × Unit) :=
 (cond (decide (x23.1 < (((List.length x23.2.1.2.1) : Nat) : Int)))
 (let j32 : Int × D25 × Unit → Option (Bool × Unit) := fun (y33 : Int × D25 × Unit) =>
 (iter (F22_R18
 (fun y42 =>
 (rec ((IntKind.wrap IntKind.i64 (y42.1 + (1 : Int))), y42.2.1, ())))
 (fun y43 =>
 (er_1 (y43.1, ())))) fuel (y33.1, (0 : Int), y33.2.1, ()))
 (gd (decide ((0 : Int) ≤ x23.1))
 (Option.bind x23.2.1.2.1[(Int.toNat x23.1)]? fun y27 =>
 (Option.bind (F47 y27) fun y28 =>
 (cond (!y28.1)
 (er_1 (false, ()))
 (gd (decide ((0 : Int) ≤ x23.1))
 (Option.bind x23.2.1.2.1[(Int.toNat x23.1)]? fun y29 =>
 (cond (decide (y29.2.1 > x23.2.1.2.2.2.1))
 (er_1 (false, ()))
 (cond (decide (x23.1 > (0 : Int)))
 (gd (decide ((0 : Int) ≤ (IntKind.wrap IntKind.i64 (x23.1 - (1 : Int)))))
 (Option.bind x23.2.1.2.1[(Int.toNat (IntKind.wrap IntKind.i64 (x23.1 - (1 : Int))))]? fun y30 =>
 (gd (decide ((0 : Int) ≤ x23.1))
 (Option.bind x23.2.1.2.1[(Int.toNat x23.1)]? fun y31 =>
 (cond (decide (y30.1 ≥ y31.1))
 (er_1 (false, ()))
 (j32 (x23.1, x23.2.1, ())))))))
 (j32 (x23.1, x23.2.1, ())))))))))))
 (e4_0 (x23.2.1, ())))
noncomputable def F22 (a0 : D25) : Option (Bool × Unit) :=
 (Option.bind (F44 a0.2.2.2.1 (0 : Int) (10000 : Int)) fun y1 =>
 (cond (!y1.1)
 (some (false, ()))
 (cond ((((List.length a0.1) : Nat) : Int) == (0 : Int))
 (some (false, ()))
 (Option.bind (F45 a0.1) fun y2 =>
 (cond (!y2.1)
 (some (false, ()))
 (cond (decide ((((List.length a0.2.1) : Nat) : Int) > (4 : Int)))
 (some (false, ()))
 (Option.bind (F46 a0.2.2.1) fun y3 =>
 (cond (!y3.1)
 (some (false, ()))
 (iter (F22_R4
 (fun y19 =>
 (iter (F22_R13
 (fun y44 =>
 (cond ((((List.length y44.1.2.2.1) : Nat) : Int) == (0 : Int))
 (some (true, ()))
 (gd (decide ((0 : Int) ≤ (IntKind.wrap IntKind.i64 ((((List.length y44.1.2.2.1) : Nat) : Int) - (1 : Int)))))
 (Option.bind y44.1.2.2.1[(Int.toNat (IntKind.wrap IntKind.i64 ((((List.length y44.1.2.2.1) : Nat) : Int) - (1 : Int))))]? fun y46 =>
 (some ((decide (y46.2.1 ≤ y44.1.2.2.2.1)), ()))))))
 (fun y45 =>
 (some (y45.1, ())))) fuel ((0 : Int), y19.1, ())))
 (fun y20 =>
 (some (y20.1, ())))) fuel ((0 : Int), a0, ()))))))))))
noncomputable def C22 : Fun := ⟨[(.ro Y25)], [(.bool, .z)], fun z => F22 z.1⟩
noncomputable def E22 : Env := ⟨162, tyTab tys, oneTab ones, fnTab [(36, C36), (44, C44), (45, C45), (46, C46), (47, C47)], false, [], [(3, [1], []), (4, [1, 3], []), (5, [1, 3], []), (6, [1, 3], []), (7, [1, 3, 4], []), (8, [1, 3, 4], []), (9, [1, 3, 4], []), (12, [1], []), (13, [1, 6], []), (14, [1, 6], []), (15, [1, 6], []), (17, [1, 6], []), (18, [1, 6, 7], []), (19, [1, 6, 7], []), (20, [1, 6, 7], []), (22, [1], []), (100000, [1], []), (100001, [1, 3], []), (100002, [1, 3], []), (100003, [1, 3, 4], []), (100004, [1], []), (100005, [1, 6], []), (100006, [1, 6], []), (100007, [1, 6, 7], []), (99999, [2], [])], none, [], []⟩
noncomputable def L22 : List (LoopS (Bool × Unit)) := [⟨7, ⟨[(1, (.ptr 8 [])), (3, (.pv (.int .i64))), (4, (.pv (.int .i64)))], [(8, (.data true Y25 .z))]⟩, fun κ => F22_R7 (fun y => κ.exit 2 (SSh.mk' ⟨[(1, (.ptr 8 [])), (3, (.pv (.int .i64)))], [(8, (.data true Y25 .z))]⟩ y)) (fun y => κ.ret (SSh.mk' ⟨[(2, (.pv .bool))], []⟩ y))⟩,
  ⟨4, ⟨[(1, (.ptr 8 [])), (3, (.pv (.int .i64)))], [(8, (.data true Y25 .z))]⟩, fun κ => F22_R4 (fun y => κ.exit 0 (SSh.mk' ⟨[(1, (.ptr 8 []))], [(8, (.data true Y25 .z))]⟩ y)) (fun y => κ.ret (SSh.mk' ⟨[(2, (.pv .bool))], []⟩ y))⟩,
  ⟨18, ⟨[(1, (.ptr 8 [])), (6, (.pv (.int .i64))), (7, (.pv (.int .i64)))], [(8, (.data true Y25 .z))]⟩, fun κ => F22_R18 (fun y => κ.exit 6 (SSh.mk' ⟨[(1, (.ptr 8 [])), (6, (.pv (.int .i64)))], [(8, (.data true Y25 .z))]⟩ y)) (fun y => κ.ret (SSh.mk' ⟨[(2, (.pv .bool))], []⟩ y))⟩,
  ⟨13, ⟨[(1, (.ptr 8 [])), (6, (.pv (.int .i64)))], [(8, (.data true Y25 .z))]⟩, fun κ => F22_R13 (fun y => κ.exit 4 (SSh.mk' ⟨[(1, (.ptr 8 []))], [(8, (.data true Y25 .z))]⟩ y)) (fun y => κ.ret (SSh.mk' ⟨[(2, (.pv .bool))], []⟩ y))⟩]
theorem L22_18 : RoundEq E22 L22 L22[2] (nthLoop (codeOf Tryz.f22) 3) := fun κ N x => by kernel_rfl
theorem L22_13 : RoundEq E22 L22 L22[3] (nthLoop (codeOf Tryz.f22) 2) := fun κ N x => by kernel_rfl
theorem L22_7 : RoundEq E22 L22 L22[0] (nthLoop (codeOf Tryz.f22) 1) := fun κ N x => by kernel_rfl
theorem L22_4 : RoundEq E22 L22 L22[1] (nthLoop (codeOf Tryz.f22) 0) := fun κ N x => by kernel_rfl
theorem C22_ok : QuietOk Tryz.prog 22 C22 := tQ E22 L22 [nthLoop (codeOf Tryz.f22) 0, nthLoop (codeOf Tryz.f22) 1, nthLoop (codeOf Tryz.f22) 2, nthLoop (codeOf Tryz.f22) 3] Tryz.func22 ty_ok (.cons C36_ok (.cons C44_ok (.cons C45_ok (.cons C46_ok (.cons C47_ok .nil))))) (.cons L22[1] (by kernel_rfl) L22_4 (.cons L22[0] (by kernel_rfl) L22_7 (.cons L22[3] (by kernel_rfl) L22_13 (.cons L22[2] (by kernel_rfl) L22_18 .nil))))
noncomputable def F48_R3 (e0_0 : D94 × D94 × Unit → Option (D94 × Unit)) (rec : Int × Int × D58 × D94 × D94 × Unit → Option (D94 × Unit)) (x2 : Int × Int × D58 × D94 × D94 × Unit) : Option (D94 × Unit) :=
 (cond (decide (x2.2.1 < (((List.length x2.2.2.1.2.1) : Nat) : Int)))
 (let j7 : Int × Int × D58 × D94 × D94 × Unit → Option (D94 × Unit) := fun (y8 : Int × Int × D58 × D94 × D94 × Unit) =>
 (rec (y8.1, (IntKind.wrap IntKind.i64 (y8.2.1 + (1 : Int))), y8.2.2.1, y8.2.2.2.1, y8.2.2.2.2.1, ()))
 (gd (decide ((0 : Int) ≤ x2.2.1))
 (Option.bind x2.2.2.1.2.1[(Int.toNat x2.2.1)]? fun y5 =>
 (cond (decide (y5.1 ≤ x2.1))
 (gd (decide ((0 : Int) ≤ x2.2.1))
 (Option.bind x2.2.2.1.2.1[(Int.toNat x2.2.1)]? fun y6 =>
 (j7 (x2.1, x2.2.1, x2.2.2.1, x2.2.2.2.1, y6, ()))))
 (j7 (x2.1, x2.2.1, x2.2.2.1, x2.2.2.2.1, x2.2.2.2.2.1, ()))))))
 (e0_0 (x2.2.2.2.1, x2.2.2.2.2.1, ())))
noncomputable def F48 (a0 : D58) (a1 : Int) : Option (D94 × Unit) :=
 (iter (F48_R3
 (fun y9 =>
 (some (y9.2.1, ())))) fuel (a1, (0 : Int), a0, ((0 : Int), (false, (((0 : Int), ((0 : Int), ([], ()))), ()))), ((0 : Int), (true, (((0 : Int), ((0 : Int), ([], ()))), ()))), ()))
noncomputable def C48 : Fun := ⟨[(.ro Y58), (.ro (.int .i64))], [(Y94, .z)], fun z => F48 z.1 z.2.1⟩
noncomputable def E48 : Env := ⟨29, tyTab tys, oneTab ones, fnTab [], false, [], [(3, [1, 2, 4, 5, 6], []), (4, [1, 2, 4, 5, 6], []), (5, [1, 2, 4, 5, 6], []), (7, [4, 5], []), (100000, [4, 5], []), (100001, [1, 2, 4, 5, 6], []), (99999, [4], [])], none, [], []⟩
noncomputable def L48 : List (LoopS (D94 × Unit)) := [⟨3, ⟨[(1, (.pv (.int .i64))), (2, (.ptr 16 [])), (4, (.ptr 32 [])), (5, (.ptr 40 [])), (6, (.pv (.int .i64)))], [(16, (.data true Y58 .z)), (32, (.data true Y94 .z)), (40, (.data true Y94 .z))]⟩, fun κ => F48_R3 (fun y => κ.exit 0 (SSh.mk' ⟨[(4, (.ptr 32 [])), (5, (.ptr 40 []))], [(32, (.data true Y94 .z)), (40, (.data true Y94 .z))]⟩ y))⟩]
theorem L48_3 : RoundEq E48 L48 L48[0] (nthLoop (codeOf Tryz.f48) 0) := fun κ N x => by kernel_rfl
theorem C48_ok : QuietOk Tryz.prog 48 C48 := tQ E48 L48 [nthLoop (codeOf Tryz.f48) 0] Tryz.func48 ty_ok .nil (.cons L48[0] (by kernel_rfl) L48_3 .nil)
noncomputable def F23_R3 (e0_0 : List (D74) × Unit → Option (List (D74) × Unit)) (rec : Int × Int × D55 × List (D74) × Unit → Option (List (D74) × Unit)) (x2 : Int × Int × D55 × List (D74) × Unit) : Option (List (D74) × Unit) :=
 (cond (decide (x2.2.1 < (((List.length x2.2.2.1.2.1) : Nat) : Int)))
 (let j7 : Int × Int × D55 × List (D74) × Unit → Option (List (D74) × Unit) := fun (y8 : Int × Int × D55 × List (D74) × Unit) =>
 (rec (y8.1, (IntKind.wrap IntKind.i64 (y8.2.1 + (1 : Int))), y8.2.2.1, y8.2.2.2.1, ()))
 (gd (decide ((0 : Int) ≤ x2.2.1))
 (Option.bind x2.2.2.1.2.1[(Int.toNat x2.2.1)]? fun y5 =>
 (Option.bind (F48 y5 x2.1) fun y6 =>
 (cond (!y6.1.2.1)
 (gd (decide (((List.length x2.2.2.2.1) + (List.length [y6.1.2.2.1])) ≤ lim))
 (j7 (x2.1, x2.2.1, x2.2.2.1, (x2.2.2.2.1 ++ [y6.1.2.2.1]), ())))
 (j7 (x2.1, x2.2.1, x2.2.2.1, x2.2.2.2.1, ())))))))
 (e0_0 (x2.2.2.2.1, ())))
noncomputable def F23 (a0 : D55) (a1 : Int) : Option (List (D74) × Unit) :=
 (iter (F23_R3
 (fun y9 =>
 (some (y9.1, ())))) fuel (a1, (0 : Int), a0, [], ()))
noncomputable def C23 : Fun := ⟨[(.ro Y55), (.ro (.int .i64))], [((.slice Y74), (.own .z))], fun z => F23 z.1 z.2.1⟩
noncomputable def E23 : Env := ⟨32, tyTab tys, oneTab ones, fnTab [(48, C48)], false, [], [(3, [1, 2, 5, 6], []), (4, [1, 2, 5, 6], []), (5, [1, 2, 5, 6], []), (8, [5], []), (100000, [5], []), (100001, [1, 2, 5, 6], []), (99999, [4], [])], none, [], []⟩
noncomputable def L23 : List (LoopS (List (D74) × Unit)) := [⟨3, ⟨[(1, (.pv (.int .i64))), (2, (.ptr 16 [])), (5, (.ref (.slice Y74) 64 [])), (6, (.pv (.int .i64)))], [(16, (.data true Y55 .z)), (64, (.data false (.slice Y74) (.own .z)))]⟩, fun κ => F23_R3 (fun y => κ.exit 0 (SSh.mk' ⟨[(5, (.ref (.slice Y74) 64 []))], [(64, (.data false (.slice Y74) (.own .z)))]⟩ y))⟩]
theorem L23_3 : RoundEq E23 L23 L23[0] (nthLoop (codeOf Tryz.f23) 0) := fun κ N x => by kernel_rfl
theorem C23_ok : FreshOk Tryz.prog 23 C23 := tF E23 L23 [nthLoop (codeOf Tryz.f23) 0] Tryz.func23 ty_ok (.cons C48_ok .nil) (.cons L23[0] (by kernel_rfl) L23_3 .nil)
noncomputable def F6_R10 (e2_0 : Int × Int × Int × D25 × Unit → Option (List (Int) × Int × Unit)) (rec : Int × Int × Int × Int × D25 × Unit → Option (List (Int) × Int × Unit)) (x10 : Int × Int × Int × Int × D25 × Unit) : Option (List (Int) × Int × Unit) :=
 (gd (decide ((0 : Int) ≤ x10.2.2.1))
 (Option.bind x10.2.2.2.2.1.1[(Int.toNat x10.2.2.1)]? fun y12 =>
 (cond (decide (x10.2.2.2.1 < (((List.length y12.2.1) : Nat) : Int)))
 (gd (decide ((0 : Int) ≤ x10.2.2.1))
 (Option.bind x10.2.2.2.2.1.1[(Int.toNat x10.2.2.1)]? fun y13 =>
 (gd (decide ((0 : Int) ≤ x10.2.2.2.1))
 (Option.bind y13.2.1[(Int.toNat x10.2.2.2.1)]? fun y14 =>
 (rec ((IntKind.wrap IntKind.i64 (x10.1 + (((List.length y14.2.1) : Nat) : Int))), x10.2.1, x10.2.2.1, (IntKind.wrap IntKind.i64 (x10.2.2.2.1 + (1 : Int))), x10.2.2.2.2.1, ()))))))
 (e2_0 (x10.1, x10.2.1, x10.2.2.1, x10.2.2.2.2.1, ())))))
noncomputable def F6_R6 (e0_0 : Int × Int × D25 × Unit → Option (List (Int) × Int × Unit)) (rec : Int × Int × Int × D25 × Unit → Option (List (Int) × Int × Unit)) (x4 : Int × Int × Int × D25 × Unit) : Option (List (Int) × Int × Unit) :=
 (cond (decide (x4.2.2.1 < (((List.length x4.2.2.2.1.1) : Nat) : Int)))
 (gd (decide ((0 : Int) ≤ x4.2.2.1))
 (Option.bind x4.2.2.2.1.1[(Int.toNat x4.2.2.1)]? fun y7 =>
 (Option.bind (F23 y7 x4.2.2.2.1.2.2.2.1) fun y8 =>
 (iter (F6_R10
 (fun y15 =>
 (rec (y15.1, y15.2.1, (IntKind.wrap IntKind.i64 (y15.2.2.1 + (1 : Int))), y15.2.2.2.1, ())))) fuel (x4.1, (IntKind.wrap IntKind.i64 (x4.2.1 + (((List.length y8.1) : Nat) : Int))), x4.2.2.1, (0 : Int), x4.2.2.2.1, ())))))
 (e0_0 (x4.1, x4.2.1, x4.2.2.2.1, ())))
noncomputable def F6 (a0 : D25) : Option (List (Int) × Int × Unit) :=
 (Option.bind (F22 a0) fun y1 =>
 (cond (!y1.1)
 (some ([], ((1 : Int), ())))
 (iter (F6_R6
 (fun y16 =>
 (some ([(((List.length y16.2.2.1.2.1) : Nat) : Int), (((List.length y16.2.2.1.2.2.1) : Nat) : Int), y16.1, y16.2.1], ((0 : Int), ()))))) fuel ((0 : Int), (0 : Int), (0 : Int), a0, ()))))
noncomputable def C6 : Fun := ⟨[(.ro Y25)], [((.slice (.int .i64)), (.own .z)), ((.int .i64), .z)], fun z => F6 z.1⟩
noncomputable def E6 : Env := ⟨63, tyTab tys, oneTab ones, fnTab [(22, C22), (23, C23)], false, [], [(3, [1], []), (6, [1, 4, 5, 6], []), (7, [1, 4, 5, 6], []), (8, [1, 4, 5, 6], []), (10, [1, 4, 5, 6, 7], []), (12, [1, 4, 5, 6, 7], []), (13, [1, 4, 5], []), (100000, [1, 4, 5], []), (100001, [1, 4, 5, 6], []), (100002, [1, 4, 5, 6], []), (100003, [1, 4, 5, 6, 7], []), (99999, [2, 3], [])], none, [], []⟩
noncomputable def L6 : List (LoopS (List (Int) × Int × Unit)) := [⟨10, ⟨[(1, (.ptr 8 [])), (4, (.pv (.int .i64))), (5, (.pv (.int .i64))), (6, (.pv (.int .i64))), (7, (.pv (.int .i64)))], [(8, (.data true Y25 .z))]⟩, fun κ => F6_R10 (fun y => κ.exit 2 (SSh.mk' ⟨[(1, (.ptr 8 [])), (4, (.pv (.int .i64))), (5, (.pv (.int .i64))), (6, (.pv (.int .i64)))], [(8, (.data true Y25 .z))]⟩ y))⟩,
  ⟨6, ⟨[(1, (.ptr 8 [])), (4, (.pv (.int .i64))), (5, (.pv (.int .i64))), (6, (.pv (.int .i64)))], [(8, (.data true Y25 .z))]⟩, fun κ => F6_R6 (fun y => κ.exit 0 (SSh.mk' ⟨[(1, (.ptr 8 [])), (4, (.pv (.int .i64))), (5, (.pv (.int .i64)))], [(8, (.data true Y25 .z))]⟩ y))⟩]
theorem L6_10 : RoundEq E6 L6 L6[0] (nthLoop (codeOf Tryz.f6) 1) := fun κ N x => by kernel_rfl
theorem L6_6 : RoundEq E6 L6 L6[1] (nthLoop (codeOf Tryz.f6) 0) := fun κ N x => by kernel_rfl
theorem C6_ok : FreshOk Tryz.prog 6 C6 := tF E6 L6 [nthLoop (codeOf Tryz.f6) 0, nthLoop (codeOf Tryz.f6) 1] Tryz.func6 ty_ok (.cons C22_ok (.consFr C23_ok .nil)) (.cons L6[1] (by kernel_rfl) L6_6 (.cons L6[0] (by kernel_rfl) L6_10 .nil))
noncomputable def F150 (a0 : D74) : Option (D74 × Unit) :=
 (some ((a0.1, (a0.2.1, (a0.2.2.1, ()))), ()))
noncomputable def C150 : Fun := ⟨[(.ro Y74)], [(Y74, .z)], fun z => F150 z.1⟩
noncomputable def E150 : Env := ⟨14, tyTab tys, oneTab ones, fnTab [], true, [], [(99999, [2], [])], none, [], []⟩
noncomputable def L150 : List (LoopS (D74 × Unit)) := []
theorem C150_ok : QuietOk Tryz.prog 150 C150 := tQ E150 L150 [] Tryz.func150 ty_ok .nil .nil
noncomputable def F177 (a0 : D94) : Option (D94 × Unit) :=
 (Option.bind (F150 a0.2.2.1) fun y0 =>
 (some ((a0.1, (a0.2.1, (y0.1, ()))), ())))
noncomputable def C177 : Fun := ⟨[(.ro Y94)], [(Y94, .z)], fun z => F177 z.1⟩
noncomputable def E177 : Env := ⟨15, tyTab tys, oneTab ones, fnTab [(150, C150)], true, [], [(99999, [2], [])], none, [], []⟩
noncomputable def L177 : List (LoopS (D94 × Unit)) := []
theorem C177_ok : QuietOk Tryz.prog 177 C177 := tQ E177 L177 [] Tryz.func177 ty_ok (.cons C150_ok .nil) .nil
noncomputable def F147_R3 (e0_0 : List (D94) × Unit → Option (List (D94) × Unit)) (rec : List (D94) × Int × List (D94) × Unit → Option (List (D94) × Unit)) (x2 : List (D94) × Int × List (D94) × Unit) : Option (List (D94) × Unit) :=
 (cond (decide (x2.2.1 < (((List.length x2.1) : Nat) : Int)))
 (gd (decide ((0 : Int) ≤ x2.2.1))
 (Option.bind x2.1[(Int.toNat x2.2.1)]? fun y4 =>
 (Option.bind (F177 y4) fun y5 =>
 (gd (decide ((0 : Int) ≤ x2.2.1))
 (gd (decide (x2.2.1 < (((List.length x2.2.2.1) : Nat) : Int)))
 (Option.bind x2.2.2.1[(Int.toNat x2.2.1)]? fun y6 =>
 (rec (x2.1, (IntKind.wrap IntKind.i64 (x2.2.1 + (1 : Int))), (List.set x2.2.2.1 (Int.toNat x2.2.1) y5.1), ()))))))))
 (e0_0 (x2.2.2.1, ())))
noncomputable def F147 (a0 : List (D94)) : Option (List (D94) × Unit) :=
 (gd (decide ((((List.length a0) : Nat) : Int) ≤ ((4294967296 : Nat) : Int)))
 (gd (decide ((((List.length a0) : Nat) : Int) ≤ (((Int.toNat (((List.length a0) : Nat) : Int)) : Nat) : Int)))
 (iter (F147_R3
 (fun y7 =>
 (some (y7.1, ())))) fuel (a0, (0 : Int), (List.replicate (Int.toNat (((List.length a0) : Nat) : Int)) ((0 : Int), (false, (((0 : Int), ((0 : Int), ([], ()))), ())))), ()))))
noncomputable def C147 : Fun := ⟨[(.ro (.slice Y94))], [((.slice Y94), (.own .z))], fun z => F147 z.1⟩
noncomputable def E147 : Env := ⟨23, tyTab tys, oneTab ones, fnTab [(177, C177)], true, [], [(3, [0, 3, 4], []), (5, [0, 3, 4], []), (6, [3], []), (100000, [3], []), (100001, [0, 3, 4], []), (99999, [2], [])], none, [], []⟩
noncomputable def L147 : List (LoopS (List (D94) × Unit)) := [⟨3, ⟨[(0, (.pv (.slice Y94))), (3, (.ref (.slice Y94) 56 [])), (4, (.pv (.int .i64)))], [(56, (.data false (.slice Y94) (.own .z)))]⟩, fun κ => F147_R3 (fun y => κ.exit 0 (SSh.mk' ⟨[(3, (.ref (.slice Y94) 56 []))], [(56, (.data false (.slice Y94) (.own .z)))]⟩ y))⟩]
theorem L147_3 : RoundEq E147 L147 L147[0] (nthLoop (codeOf Tryz.f147) 0) := fun κ N x => by kernel_rfl
theorem C147_ok : FreshOk Tryz.prog 147 C147 := tF E147 L147 [nthLoop (codeOf Tryz.f147) 0] Tryz.func147 ty_ok (.cons C177_ok .nil) (.cons L147[0] (by kernel_rfl) L147_3 .nil)
noncomputable def F112 (a0 : D58) : Option (D58 × Unit) :=
 (Option.bind (F147 a0.2.1) fun y0 =>
 (some ((a0.1, (y0.1, ())), ())))
noncomputable def C112 : Fun := ⟨[(.ro Y58)], [(Y58, (.pr .z (.pr (.own .z) .z)))], fun z => F112 z.1⟩
noncomputable def E112 : Env := ⟨12, tyTab tys, oneTab ones, fnTab [(147, C147)], true, [], [(99999, [2], [])], none, [], []⟩
noncomputable def L112 : List (LoopS (D58 × Unit)) := []
theorem C112_ok : FreshOk Tryz.prog 112 C112 := tF E112 L112 [] Tryz.func112 ty_ok (.consFr C147_ok .nil) .nil
noncomputable def F81_R3 (e0_0 : List (D58) × Unit → Option (List (D58) × Unit)) (rec : List (D58) × Int × List (D58) × Unit → Option (List (D58) × Unit)) (x2 : List (D58) × Int × List (D58) × Unit) : Option (List (D58) × Unit) :=
 (cond (decide (x2.2.1 < (((List.length x2.1) : Nat) : Int)))
 (gd (decide ((0 : Int) ≤ x2.2.1))
 (Option.bind x2.1[(Int.toNat x2.2.1)]? fun y4 =>
 (Option.bind (F112 y4) fun y5 =>
 (gd (decide ((0 : Int) ≤ x2.2.1))
 (gd (decide (x2.2.1 < (((List.length x2.2.2.1) : Nat) : Int)))
 (Option.bind x2.2.2.1[(Int.toNat x2.2.1)]? fun y6 =>
 (rec (x2.1, (IntKind.wrap IntKind.i64 (x2.2.1 + (1 : Int))), (List.set x2.2.2.1 (Int.toNat x2.2.1) y5.1), ()))))))))
 (e0_0 (x2.2.2.1, ())))
noncomputable def F81 (a0 : List (D58)) : Option (List (D58) × Unit) :=
 (gd (decide ((((List.length a0) : Nat) : Int) ≤ ((4294967296 : Nat) : Int)))
 (gd (decide ((((List.length a0) : Nat) : Int) ≤ (((Int.toNat (((List.length a0) : Nat) : Int)) : Nat) : Int)))
 (iter (F81_R3
 (fun y7 =>
 (some (y7.1, ())))) fuel (a0, (0 : Int), (List.replicate (Int.toNat (((List.length a0) : Nat) : Int)) ((0 : Int), ([], ()))), ()))))
noncomputable def C81 : Fun := ⟨[(.ro (.slice Y58))], [((.slice Y58), (.own (.pr .z (.pr (.own .z) .z))))], fun z => F81 z.1⟩
noncomputable def E81 : Env := ⟨23, tyTab tys, oneTab ones, fnTab [(112, C112)], true, [], [(3, [0, 3, 4], []), (5, [0, 3, 4], []), (6, [3], []), (100000, [3], []), (100001, [0, 3, 4], []), (99999, [2], [])], none, [], []⟩
noncomputable def L81 : List (LoopS (List (D58) × Unit)) := [⟨3, ⟨[(0, (.pv (.slice Y58))), (3, (.ref (.slice Y58) 56 [])), (4, (.pv (.int .i64)))], [(56, (.data false (.slice Y58) (.own (.pr .z (.pr (.own .z) .z)))))]⟩, fun κ => F81_R3 (fun y => κ.exit 0 (SSh.mk' ⟨[(3, (.ref (.slice Y58) 56 []))], [(56, (.data false (.slice Y58) (.own (.pr .z (.pr (.own .z) .z)))))]⟩ y))⟩]
theorem L81_3 : RoundEq E81 L81 L81[0] (nthLoop (codeOf Tryz.f81) 0) := fun κ N x => by kernel_rfl
theorem C81_ok : FreshOk Tryz.prog 81 C81 := tF E81 L81 [nthLoop (codeOf Tryz.f81) 0] Tryz.func81 ty_ok (.consFr C112_ok .nil) (.cons L81[0] (by kernel_rfl) L81_3 .nil)
noncomputable def F178 (a0 : D209) : Option (D209 × Unit) :=
 (some ((a0.1, (a0.2.1, ())), ()))
noncomputable def C178 : Fun := ⟨[(.ro Y209)], [(Y209, .z)], fun z => F178 z.1⟩
noncomputable def E178 : Env := ⟨11, tyTab tys, oneTab ones, fnTab [], true, [], [(99999, [2], [])], none, [], []⟩
noncomputable def L178 : List (LoopS (D209 × Unit)) := []
theorem C178_ok : QuietOk Tryz.prog 178 C178 := tQ E178 L178 [] Tryz.func178 ty_ok .nil .nil
noncomputable def F148_R3 (e0_0 : List (D209) × Unit → Option (List (D209) × Unit)) (rec : List (D209) × Int × List (D209) × Unit → Option (List (D209) × Unit)) (x2 : List (D209) × Int × List (D209) × Unit) : Option (List (D209) × Unit) :=
 (cond (decide (x2.2.1 < (((List.length x2.1) : Nat) : Int)))
 (gd (decide ((0 : Int) ≤ x2.2.1))
 (Option.bind x2.1[(Int.toNat x2.2.1)]? fun y4 =>
 (Option.bind (F178 y4) fun y5 =>
 (gd (decide ((0 : Int) ≤ x2.2.1))
 (gd (decide (x2.2.1 < (((List.length x2.2.2.1) : Nat) : Int)))
 (Option.bind x2.2.2.1[(Int.toNat x2.2.1)]? fun y6 =>
 (rec (x2.1, (IntKind.wrap IntKind.i64 (x2.2.1 + (1 : Int))), (List.set x2.2.2.1 (Int.toNat x2.2.1) y5.1), ()))))))))
 (e0_0 (x2.2.2.1, ())))
noncomputable def F148 (a0 : List (D209)) : Option (List (D209) × Unit) :=
 (gd (decide ((((List.length a0) : Nat) : Int) ≤ ((4294967296 : Nat) : Int)))
 (gd (decide ((((List.length a0) : Nat) : Int) ≤ (((Int.toNat (((List.length a0) : Nat) : Int)) : Nat) : Int)))
 (iter (F148_R3
 (fun y7 =>
 (some (y7.1, ())))) fuel (a0, (0 : Int), (List.replicate (Int.toNat (((List.length a0) : Nat) : Int)) ([], (false, ()))), ()))))
noncomputable def C148 : Fun := ⟨[(.ro (.slice Y209))], [((.slice Y209), (.own .z))], fun z => F148 z.1⟩
noncomputable def E148 : Env := ⟨23, tyTab tys, oneTab ones, fnTab [(178, C178)], true, [], [(3, [0, 3, 4], []), (5, [0, 3, 4], []), (6, [3], []), (100000, [3], []), (100001, [0, 3, 4], []), (99999, [2], [])], none, [], []⟩
noncomputable def L148 : List (LoopS (List (D209) × Unit)) := [⟨3, ⟨[(0, (.pv (.slice Y209))), (3, (.ref (.slice Y209) 56 [])), (4, (.pv (.int .i64)))], [(56, (.data false (.slice Y209) (.own .z)))]⟩, fun κ => F148_R3 (fun y => κ.exit 0 (SSh.mk' ⟨[(3, (.ref (.slice Y209) 56 []))], [(56, (.data false (.slice Y209) (.own .z)))]⟩ y))⟩]
theorem L148_3 : RoundEq E148 L148 L148[0] (nthLoop (codeOf Tryz.f148) 0) := fun κ N x => by kernel_rfl
theorem C148_ok : FreshOk Tryz.prog 148 C148 := tF E148 L148 [nthLoop (codeOf Tryz.f148) 0] Tryz.func148 ty_ok (.cons C178_ok .nil) (.cons L148[0] (by kernel_rfl) L148_3 .nil)
noncomputable def F113 (a0 : D158) : Option (D158 × Unit) :=
 (Option.bind (F148 a0.2.1) fun y0 =>
 (some ((a0.1, (y0.1, ())), ())))
noncomputable def C113 : Fun := ⟨[(.ro Y158)], [(Y158, (.pr .z (.pr (.own .z) .z)))], fun z => F113 z.1⟩
noncomputable def E113 : Env := ⟨12, tyTab tys, oneTab ones, fnTab [(148, C148)], true, [], [(99999, [2], [])], none, [], []⟩
noncomputable def L113 : List (LoopS (D158 × Unit)) := []
theorem C113_ok : FreshOk Tryz.prog 113 C113 := tF E113 L113 [] Tryz.func113 ty_ok (.consFr C148_ok .nil) .nil
noncomputable def F82_R3 (e0_0 : List (D158) × Unit → Option (List (D158) × Unit)) (rec : List (D158) × Int × List (D158) × Unit → Option (List (D158) × Unit)) (x2 : List (D158) × Int × List (D158) × Unit) : Option (List (D158) × Unit) :=
 (cond (decide (x2.2.1 < (((List.length x2.1) : Nat) : Int)))
 (gd (decide ((0 : Int) ≤ x2.2.1))
 (Option.bind x2.1[(Int.toNat x2.2.1)]? fun y4 =>
 (Option.bind (F113 y4) fun y5 =>
 (gd (decide ((0 : Int) ≤ x2.2.1))
 (gd (decide (x2.2.1 < (((List.length x2.2.2.1) : Nat) : Int)))
 (Option.bind x2.2.2.1[(Int.toNat x2.2.1)]? fun y6 =>
 (rec (x2.1, (IntKind.wrap IntKind.i64 (x2.2.1 + (1 : Int))), (List.set x2.2.2.1 (Int.toNat x2.2.1) y5.1), ()))))))))
 (e0_0 (x2.2.2.1, ())))
noncomputable def F82 (a0 : List (D158)) : Option (List (D158) × Unit) :=
 (gd (decide ((((List.length a0) : Nat) : Int) ≤ ((4294967296 : Nat) : Int)))
 (gd (decide ((((List.length a0) : Nat) : Int) ≤ (((Int.toNat (((List.length a0) : Nat) : Int)) : Nat) : Int)))
 (iter (F82_R3
 (fun y7 =>
 (some (y7.1, ())))) fuel (a0, (0 : Int), (List.replicate (Int.toNat (((List.length a0) : Nat) : Int)) ([], ([], ()))), ()))))
noncomputable def C82 : Fun := ⟨[(.ro (.slice Y158))], [((.slice Y158), (.own (.pr .z (.pr (.own .z) .z))))], fun z => F82 z.1⟩
noncomputable def E82 : Env := ⟨23, tyTab tys, oneTab ones, fnTab [(113, C113)], true, [], [(3, [0, 3, 4], []), (5, [0, 3, 4], []), (6, [3], []), (100000, [3], []), (100001, [0, 3, 4], []), (99999, [2], [])], none, [], []⟩
noncomputable def L82 : List (LoopS (List (D158) × Unit)) := [⟨3, ⟨[(0, (.pv (.slice Y158))), (3, (.ref (.slice Y158) 56 [])), (4, (.pv (.int .i64)))], [(56, (.data false (.slice Y158) (.own (.pr .z (.pr (.own .z) .z)))))]⟩, fun κ => F82_R3 (fun y => κ.exit 0 (SSh.mk' ⟨[(3, (.ref (.slice Y158) 56 []))], [(56, (.data false (.slice Y158) (.own (.pr .z (.pr (.own .z) .z)))))]⟩ y))⟩]
theorem L82_3 : RoundEq E82 L82 L82[0] (nthLoop (codeOf Tryz.f82) 0) := fun κ N x => by kernel_rfl
theorem C82_ok : FreshOk Tryz.prog 82 C82 := tF E82 L82 [nthLoop (codeOf Tryz.f82) 0] Tryz.func82 ty_ok (.consFr C113_ok .nil) (.cons L82[0] (by kernel_rfl) L82_3 .nil)
noncomputable def F49 (a0 : D55) : Option (D55 × Unit) :=
 (Option.bind (F81 a0.2.1) fun y0 =>
 (Option.bind (F82 a0.2.2.1) fun y1 =>
 (some ((a0.1, (y0.1, (y1.1, ()))), ()))))
noncomputable def C49 : Fun := ⟨[(.ro Y55)], [(Y55, (.pr .z (.pr (.own (.pr .z (.pr (.own .z) .z))) (.pr (.own (.pr .z (.pr (.own .z) .z))) .z))))], fun z => F49 z.1⟩
noncomputable def E49 : Env := ⟨16, tyTab tys, oneTab ones, fnTab [(81, C81), (82, C82)], true, [], [(99999, [2], [])], none, [], []⟩
noncomputable def L49 : List (LoopS (D55 × Unit)) := []
theorem C49_ok : FreshOk Tryz.prog 49 C49 := tF E49 L49 [] Tryz.func49 ty_ok (.consFr C81_ok (.consFr C82_ok .nil)) .nil
noncomputable def F24_R3 (e0_0 : List (D55) × Unit → Option (List (D55) × Unit)) (rec : List (D55) × Int × List (D55) × Unit → Option (List (D55) × Unit)) (x2 : List (D55) × Int × List (D55) × Unit) : Option (List (D55) × Unit) :=
 (cond (decide (x2.2.1 < (((List.length x2.1) : Nat) : Int)))
 (gd (decide ((0 : Int) ≤ x2.2.1))
 (Option.bind x2.1[(Int.toNat x2.2.1)]? fun y4 =>
 (Option.bind (F49 y4) fun y5 =>
 (gd (decide ((0 : Int) ≤ x2.2.1))
 (gd (decide (x2.2.1 < (((List.length x2.2.2.1) : Nat) : Int)))
 (Option.bind x2.2.2.1[(Int.toNat x2.2.1)]? fun y6 =>
 (rec (x2.1, (IntKind.wrap IntKind.i64 (x2.2.1 + (1 : Int))), (List.set x2.2.2.1 (Int.toNat x2.2.1) y5.1), ()))))))))
 (e0_0 (x2.2.2.1, ())))
noncomputable def F24 (a0 : List (D55)) : Option (List (D55) × Unit) :=
 (gd (decide ((((List.length a0) : Nat) : Int) ≤ ((4294967296 : Nat) : Int)))
 (gd (decide ((((List.length a0) : Nat) : Int) ≤ (((Int.toNat (((List.length a0) : Nat) : Int)) : Nat) : Int)))
 (iter (F24_R3
 (fun y7 =>
 (some (y7.1, ())))) fuel (a0, (0 : Int), (List.replicate (Int.toNat (((List.length a0) : Nat) : Int)) ([], ([], ([], ())))), ()))))
noncomputable def C24 : Fun := ⟨[(.ro (.slice Y55))], [((.slice Y55), (.own (.pr .z (.pr (.own (.pr .z (.pr (.own .z) .z))) (.pr (.own (.pr .z (.pr (.own .z) .z))) .z)))))], fun z => F24 z.1⟩
noncomputable def E24 : Env := ⟨23, tyTab tys, oneTab ones, fnTab [(49, C49)], true, [], [(3, [0, 3, 4], []), (5, [0, 3, 4], []), (6, [3], []), (100000, [3], []), (100001, [0, 3, 4], []), (99999, [2], [])], none, [], []⟩
noncomputable def L24 : List (LoopS (List (D55) × Unit)) := [⟨3, ⟨[(0, (.pv (.slice Y55))), (3, (.ref (.slice Y55) 56 [])), (4, (.pv (.int .i64)))], [(56, (.data false (.slice Y55) (.own (.pr .z (.pr (.own (.pr .z (.pr (.own .z) .z))) (.pr (.own (.pr .z (.pr (.own .z) .z))) .z))))))]⟩, fun κ => F24_R3 (fun y => κ.exit 0 (SSh.mk' ⟨[(3, (.ref (.slice Y55) 56 []))], [(56, (.data false (.slice Y55) (.own (.pr .z (.pr (.own (.pr .z (.pr (.own .z) .z))) (.pr (.own (.pr .z (.pr (.own .z) .z))) .z))))))]⟩ y))⟩]
theorem L24_3 : RoundEq E24 L24 L24[0] (nthLoop (codeOf Tryz.f24) 0) := fun κ N x => by kernel_rfl
theorem C24_ok : FreshOk Tryz.prog 24 C24 := tF E24 L24 [nthLoop (codeOf Tryz.f24) 0] Tryz.func24 ty_ok (.consFr C49_ok .nil) (.cons L24[0] (by kernel_rfl) L24_3 .nil)
noncomputable def F223 (a0 : D222) : Option (D222 × Unit) :=
 (Option.bind (F150 a0.2.2.1) fun y0 =>
 (some ((a0.1, (a0.2.1, (y0.1, ()))), ())))
noncomputable def C223 : Fun := ⟨[(.ro Y222)], [(Y222, .z)], fun z => F223 z.1⟩
noncomputable def E223 : Env := ⟨15, tyTab tys, oneTab ones, fnTab [(150, C150)], true, [], [(99999, [2], [])], none, [], []⟩
noncomputable def L223 : List (LoopS (D222 × Unit)) := []
theorem C223_ok : QuietOk Tryz.prog 223 C223 := tQ E223 L223 [] Tryz.func223 ty_ok (.cons C150_ok .nil) .nil
noncomputable def F213_R3 (e0_0 : List (D222) × Unit → Option D213) (rec : List (D222) × Int × List (D222) × Unit → Option D213) (x2 : List (D222) × Int × List (D222) × Unit) : Option D213 :=
 (cond (decide (x2.2.1 < (((List.length x2.1) : Nat) : Int)))
 (gd (decide ((0 : Int) ≤ x2.2.1))
 (Option.bind x2.1[(Int.toNat x2.2.1)]? fun y4 =>
 (Option.bind (F223 y4) fun y5 =>
 (gd (decide ((0 : Int) ≤ x2.2.1))
 (gd (decide (x2.2.1 < (((List.length x2.2.2.1) : Nat) : Int)))
 (Option.bind x2.2.2.1[(Int.toNat x2.2.1)]? fun y6 =>
 (rec (x2.1, (IntKind.wrap IntKind.i64 (x2.2.1 + (1 : Int))), (List.set x2.2.2.1 (Int.toNat x2.2.1) y5.1), ()))))))))
 (e0_0 (x2.2.2.1, ())))
noncomputable def F213 (a0 : List (D222)) : Option D213 :=
 (gd (decide ((((List.length a0) : Nat) : Int) ≤ ((4294967296 : Nat) : Int)))
 (gd (decide ((((List.length a0) : Nat) : Int) ≤ (((Int.toNat (((List.length a0) : Nat) : Int)) : Nat) : Int)))
 (iter (F213_R3
 (fun y7 =>
 (some (y7.1, ())))) fuel (a0, (0 : Int), (List.replicate (Int.toNat (((List.length a0) : Nat) : Int)) ((0 : Int), ([], (((0 : Int), ((0 : Int), ([], ()))), ())))), ()))))
noncomputable def C213 : Fun := ⟨[(.ro (.slice Y222))], [((.slice Y222), (.own .z))], fun z => F213 z.1⟩
noncomputable def E213 : Env := ⟨23, tyTab tys, oneTab ones, fnTab [(223, C223)], true, [], [(3, [0, 3, 4], []), (5, [0, 3, 4], []), (6, [3], []), (100000, [3], []), (100001, [0, 3, 4], []), (99999, [2], [])], none, [], []⟩
noncomputable def L213 : List (LoopS D213) := [⟨3, ⟨[(0, (.pv (.slice Y222))), (3, (.ref (.slice Y222) 56 [])), (4, (.pv (.int .i64)))], [(56, (.data false (.slice Y222) (.own .z)))]⟩, fun κ => F213_R3 (fun y => κ.exit 0 (SSh.mk' ⟨[(3, (.ref (.slice Y222) 56 []))], [(56, (.data false (.slice Y222) (.own .z)))]⟩ y))⟩]
theorem L213_3 : RoundEq E213 L213 L213[0] (nthLoop (codeOf Tryz.f213) 0) := fun κ N x => by kernel_rfl
theorem C213_ok : FreshOk Tryz.prog 213 C213 := tF E213 L213 [nthLoop (codeOf Tryz.f213) 0] Tryz.func213 ty_ok (.cons C223_ok .nil) (.cons L213[0] (by kernel_rfl) L213_3 .nil)
noncomputable def F198 (a0 : D213) : Option (D213 × Unit) :=
 (Option.bind (F213 a0.1) fun y0 =>
 (some ((y0.1, ()), ())))
noncomputable def C198 : Fun := ⟨[(.ro Y213)], [(Y213, (.pr (.own .z) .z))], fun z => F198 z.1⟩
noncomputable def E198 : Env := ⟨9, tyTab tys, oneTab ones, fnTab [(213, C213)], true, [], [(99999, [2], [])], none, [], []⟩
noncomputable def L198 : List (LoopS (D213 × Unit)) := []
theorem C198_ok : FreshOk Tryz.prog 198 C198 := tF E198 L198 [] Tryz.func198 ty_ok (.consFr C213_ok .nil) .nil
noncomputable def F179_R3 (e0_0 : List (D213) × Unit → Option D137) (rec : List (D213) × Int × List (D213) × Unit → Option D137) (x2 : List (D213) × Int × List (D213) × Unit) : Option D137 :=
 (cond (decide (x2.2.1 < (((List.length x2.1) : Nat) : Int)))
 (gd (decide ((0 : Int) ≤ x2.2.1))
 (Option.bind x2.1[(Int.toNat x2.2.1)]? fun y4 =>
 (Option.bind (F198 y4) fun y5 =>
 (gd (decide ((0 : Int) ≤ x2.2.1))
 (gd (decide (x2.2.1 < (((List.length x2.2.2.1) : Nat) : Int)))
 (Option.bind x2.2.2.1[(Int.toNat x2.2.1)]? fun y6 =>
 (rec (x2.1, (IntKind.wrap IntKind.i64 (x2.2.1 + (1 : Int))), (List.set x2.2.2.1 (Int.toNat x2.2.1) y5.1), ()))))))))
 (e0_0 (x2.2.2.1, ())))
noncomputable def F179 (a0 : List (D213)) : Option D137 :=
 (gd (decide ((((List.length a0) : Nat) : Int) ≤ ((4294967296 : Nat) : Int)))
 (gd (decide ((((List.length a0) : Nat) : Int) ≤ (((Int.toNat (((List.length a0) : Nat) : Int)) : Nat) : Int)))
 (iter (F179_R3
 (fun y7 =>
 (some (y7.1, ())))) fuel (a0, (0 : Int), (List.replicate (Int.toNat (((List.length a0) : Nat) : Int)) ([], ())), ()))))
noncomputable def C179 : Fun := ⟨[(.ro (.slice Y213))], [((.slice Y213), (.own (.pr (.own .z) .z)))], fun z => F179 z.1⟩
noncomputable def E179 : Env := ⟨23, tyTab tys, oneTab ones, fnTab [(198, C198)], true, [], [(3, [0, 3, 4], []), (5, [0, 3, 4], []), (6, [3], []), (100000, [3], []), (100001, [0, 3, 4], []), (99999, [2], [])], none, [], []⟩
noncomputable def L179 : List (LoopS D137) := [⟨3, ⟨[(0, (.pv (.slice Y213))), (3, (.ref (.slice Y213) 56 [])), (4, (.pv (.int .i64)))], [(56, (.data false (.slice Y213) (.own (.pr (.own .z) .z))))]⟩, fun κ => F179_R3 (fun y => κ.exit 0 (SSh.mk' ⟨[(3, (.ref (.slice Y213) 56 []))], [(56, (.data false (.slice Y213) (.own (.pr (.own .z) .z))))]⟩ y))⟩]
theorem L179_3 : RoundEq E179 L179 L179[0] (nthLoop (codeOf Tryz.f179) 0) := fun κ N x => by kernel_rfl
theorem C179_ok : FreshOk Tryz.prog 179 C179 := tF E179 L179 [nthLoop (codeOf Tryz.f179) 0] Tryz.func179 ty_ok (.consFr C198_ok .nil) (.cons L179[0] (by kernel_rfl) L179_3 .nil)
noncomputable def F149 (a0 : D137) : Option (D137 × Unit) :=
 (Option.bind (F179 a0.1) fun y0 =>
 (some ((y0.1, ()), ())))
noncomputable def C149 : Fun := ⟨[(.ro Y137)], [(Y137, (.pr (.own (.pr (.own .z) .z)) .z))], fun z => F149 z.1⟩
noncomputable def E149 : Env := ⟨9, tyTab tys, oneTab ones, fnTab [(179, C179)], true, [], [(99999, [2], [])], none, [], []⟩
noncomputable def L149 : List (LoopS (D137 × Unit)) := []
theorem C149_ok : FreshOk Tryz.prog 149 C149 := tF E149 L149 [] Tryz.func149 ty_ok (.consFr C179_ok .nil) .nil
noncomputable def F114 (a0 : D139) : Option (D139 × Unit) :=
 (Option.bind (F149 a0.2.1) fun y0 =>
 (some ((a0.1, (y0.1, ())), ())))
noncomputable def C114 : Fun := ⟨[(.ro Y139)], [(Y139, (.pr .z (.pr (.pr (.own (.pr (.own .z) .z)) .z) .z)))], fun z => F114 z.1⟩
noncomputable def E114 : Env := ⟨12, tyTab tys, oneTab ones, fnTab [(149, C149)], true, [], [(99999, [2], [])], none, [], []⟩
noncomputable def L114 : List (LoopS (D139 × Unit)) := []
theorem C114_ok : FreshOk Tryz.prog 114 C114 := tF E114 L114 [] Tryz.func114 ty_ok (.consFr C149_ok .nil) .nil
end Go.V
