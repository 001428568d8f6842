/- What functions of the program compute, printed by a program of ours. No condition. -/
import Derived.Test.YtkffanggiblcjaaGreatDoorWF0
namespace Go.V
open Go.Proofs
set_option maxRecDepth 100000
set_option linter.unusedVariables false
abbrev G253 : Type := (D84) → (List (List UInt8)) → Option (List (D84) × Unit)
noncomputable def H253 (g : G253) : Fun := ⟨[(.ro Y84), (.ro (.slice .str))], [((.slice Y84), .z)], fun z => g z.1 z.2.1⟩
noncomputable def B253_R17 (g : G253) (e1_0 : List (D84) × Unit → Option (List (D84) × Unit)) (rec : List (List UInt8) × List (D84) × Int × List (D84) × Unit → Option (List (D84) × Unit)) (x13 : List (List UInt8) × List (D84) × Int × List (D84) × Unit) : Option (List (D84) × Unit) :=
 (cond (decide (x13.2.2.1 < (((List.length x13.2.1) : Nat) : Int)))
 (let j19 : List (List UInt8) × List (D84) × Int × List (D84) × Unit → Option (List (D84) × Unit) := fun (y20 : List (List UInt8) × List (D84) × Int × List (D84) × Unit) =>
 (rec (y20.1, y20.2.1, (IntKind.wrap IntKind.i64 (y20.2.2.1 + (1 : Int))), y20.2.2.2.1, ()))
 (gd (decide ((0 : Int) ≤ x13.2.2.1))
 (Option.bind x13.2.1[(Int.toNat x13.2.2.1)]? fun y16 =>
 (cond (y16.1 == (5 : Int))
 (gd (decide ((0 : Int) ≤ x13.2.2.1))
 (Option.bind x13.2.1[(Int.toNat x13.2.2.1)]? fun y17 =>
 (Option.bind (g y17 x13.1) fun y18 =>
 (gd (decide (((List.length x13.2.2.2.1) + (List.length y18.1)) ≤ lim))
 (j19 (x13.1, x13.2.1, x13.2.2.1, (x13.2.2.2.1 ++ y18.1), ()))))))
 (j19 (x13.1, x13.2.1, x13.2.2.1, x13.2.2.2.1, ()))))))
 (e1_0 (x13.2.2.2.1, ())))
noncomputable def B253 (g : G253) (a0 : D84) (a1 : List (List UInt8)) : Option (List (D84) × Unit) :=
 (cond ((((List.length a1) : Nat) : Int) == (0 : Int))
 (let j3 : List (D84) × Unit → Option (List (D84) × Unit) := fun (y4 : List (D84) × Unit) =>
 (some (y4.1, ()))
 (cond (a0.1 == (4 : Int))
 (Option.bind (F224 a0.2.2.1) fun y2 =>
 (gd (decide (((List.length [a0]) + (List.length y2.1)) ≤ lim))
 (j3 (([a0] ++ y2.1), ()))))
 (j3 ([a0], ()))))
 (cond (a0.1 == (5 : Int))
 (Option.bind a1[(Int.toNat (0 : Int))]? fun y6 =>
 (Option.bind (F141 a0 y6) fun y7 =>
 (cond (!y7.2.1)
 (some ([], ()))
 (gd (decide ((((List.length a1) : Nat) : Int) ≤ (((List.length a1) : Nat) : Int)))
 (gd (decide ((1 : Int) ≤ (((Int.toNat (((List.length a1) : Nat) : Int)) : Nat) : Int)))
 (Option.bind (g y7.1 (List.drop (Int.toNat (1 : Int)) (List.take (Int.toNat (((List.length a1) : Nat) : Int)) a1))) fun y9 =>
 (some (y9.1, ()))))))))
 (cond (a0.1 == (4 : Int))
 (Option.bind (F224 a0.2.2.1) fun y10 =>
 (iter (B253_R17 g
 (fun y21 =>
 (some (y21.1, ())))) fuel (a1, y10.1, (0 : Int), [], ())))
 (some ([], ())))))
noncomputable def K253 (g : G253) : Fun := ⟨[(.ro Y84), (.ro (.slice .str))], [((.slice Y84), .z)], fun z => B253 g z.1 z.2.1⟩
noncomputable def E253 (g : G253) : Env := ⟨82, tyTab tys, oneTab ones, fnTab [(141, C141), (224, C224), (253, (H253 g))], false, [], [(6, [5], []), (7, [1, 2], []), (12, [1, 8], []), (17, [1, 10, 11, 13], []), (18, [1, 10, 11, 13], []), (19, [1, 10, 11, 13], []), (21, [10], []), (22, [], []), (100000, [], []), (100001, [10], []), (100002, [1, 10, 11, 13], []), (99999, [4], [])], none, [], []⟩
noncomputable def L253 (g : G253) : List (LoopS (List (D84) × Unit)) := [⟨17, ⟨[(1, (.pv (.slice .str))), (10, (.ref (.slice Y84) 424 [])), (11, (.pv (.slice Y84))), (13, (.pv (.int .i64)))], [(424, (.data false (.slice Y84) (.own .z)))]⟩, fun κ => B253_R17 g (fun y => κ.exit 1 (SSh.mk' ⟨[(10, (.ref (.slice Y84) 424 []))], [(424, (.data false (.slice Y84) (.own .z)))]⟩ y))⟩]
theorem L253_17 (g : G253) : RoundEq (E253 g) (L253 g) ((L253 g)[0]'(Nat.le_of_ble_eq_true rfl)) (nthLoop (codeOf Tryz.f253) 0) := fun κ N x => by kernel_rfl
theorem K253_ok (g : G253) (hg : QuietOk Tryz.prog 253 (H253 g)) : QuietOk Tryz.prog 253 (K253 g) := tQ (E253 g) (L253 g) [nthLoop (codeOf Tryz.f253) 0] Tryz.func253 ty_ok (.cons C141_ok (.cons C224_ok (.cons hg .nil))) (.cons ((L253 g)[0]'(Nat.le_of_ble_eq_true rfl)) (by kernel_rfl) (L253_17 g) .nil)
noncomputable def S253 : Nat → G253
  | 0 => fun _ _ => none
  | k + 1 => B253 (S253 k)
noncomputable def F253 : G253 := S253 fuel
noncomputable def C253 : Fun := H253 F253
theorem C253_all : ∀ k, QuietOk Tryz.prog 253 (H253 (S253 k))
  | 0 => QuietOk.none Tryz.func253 (by rfl) (by decide) fun _ => rfl
  | k + 1 => K253_ok (S253 k) (C253_all k)
theorem C253_ok : QuietOk Tryz.prog 253 C253 := C253_all fuel
noncomputable def F225 (a0 : D84) (a1 : List UInt8) : Option (List (D84) × Unit) :=
 (Option.bind (F139 a1 (46 : Int)) fun y0 =>
 (Option.bind (F253 a0 y0.1) fun y1 =>
 (some (y1.1, ()))))
noncomputable def C225 : Fun := ⟨[(.ro Y84), (.ro .str)], [((.slice Y84), .z)], fun z => F225 z.1 z.2.1⟩
noncomputable def E225 : Env := ⟨9, tyTab tys, oneTab ones, fnTab [(139, C139), (253, C253)], false, [], [(99999, [4], [])], none, [], []⟩
noncomputable def L225 : List (LoopS (List (D84) × Unit)) := []
theorem C225_ok : QuietOk Tryz.prog 225 C225 := tQ E225 L225 [] Tryz.func225 ty_ok (.cons C139_ok (.cons C253_ok .nil)) .nil
noncomputable def F227 (a0 : Bool) : Option (Int × Unit) :=
 (cond a0
 (some ((1 : Int), ()))
 (some ((0 : Int), ())))
noncomputable def C227 : Fun := ⟨[(.ro .bool)], [((.int .i64), .z)], fun z => F227 z.1⟩
noncomputable def E227 : Env := ⟨4, tyTab tys, oneTab ones, fnTab [], false, [], [(3, [], []), (99999, [2], [])], none, [], []⟩
noncomputable def L227 : List (LoopS (Int × Unit)) := []
theorem C227_ok : QuietOk Tryz.prog 227 C227 := tQ E227 L227 [] Tryz.func227 ty_ok .nil .nil
abbrev G185 : Type := (D84) → (D84) → Option (Int × Unit)
noncomputable def H185 (g : G185) : Fun := ⟨[(.ro Y84), (.ro Y84)], [((.int .i64), .z)], fun z => g z.1 z.2.1⟩
noncomputable def B185_R13 (g : G185) (e1_0 : List (D84) × List (D84) × Unit → Option (Int × Unit)) (er_1 : Int × Unit → Option (Int × Unit)) (rec : List (D84) × List (D84) × Int × Unit → Option (Int × Unit)) (x8 : List (D84) × List (D84) × Int × Unit) : Option (Int × Unit) :=
 (cond (decide (x8.2.2.1 < (((List.length x8.1) : Nat) : Int)))
 (cond (decide (x8.2.2.1 < (((List.length x8.2.1) : Nat) : Int)))
 (gd (decide ((0 : Int) ≤ x8.2.2.1))
 (Option.bind x8.1[(Int.toNat x8.2.2.1)]? fun y11 =>
 (gd (decide ((0 : Int) ≤ x8.2.2.1))
 (Option.bind x8.2.1[(Int.toNat x8.2.2.1)]? fun y12 =>
 (Option.bind (g y11 y12) fun y13 =>
 (cond (y13.1 != (0 : Int))
 (er_1 (y13.1, ()))
 (rec (x8.1, x8.2.1, (IntKind.wrap IntKind.i64 (x8.2.2.1 + (1 : Int))), ()))))))))
 (e1_0 (x8.1, x8.2.1, ())))
 (e1_0 (x8.1, x8.2.1, ())))
noncomputable def B185_R22 (g : G185) (e3_0 : List (D180) × List (D180) × Unit → Option (Int × Unit)) (er_1 : Int × Unit → Option (Int × Unit)) (rec : List (D180) × List (D180) × Int × Unit → Option (Int × Unit)) (x21 : List (D180) × List (D180) × Int × Unit) : Option (Int × Unit) :=
 (cond (decide (x21.2.2.1 < (((List.length x21.1) : Nat) : Int)))
 (cond (decide (x21.2.2.1 < (((List.length x21.2.1) : Nat) : Int)))
 (gd (decide ((0 : Int) ≤ x21.2.2.1))
 (Option.bind x21.1[(Int.toNat x21.2.2.1)]? fun y25 =>
 (gd (decide ((0 : Int) ≤ x21.2.2.1))
 (Option.bind x21.2.1[(Int.toNat x21.2.2.1)]? fun y26 =>
 (cond (!(y25.1 == y26.1))
 (gd (decide ((0 : Int) ≤ x21.2.2.1))
 (Option.bind x21.1[(Int.toNat x21.2.2.1)]? fun y27 =>
 (gd (decide ((0 : Int) ≤ x21.2.2.1))
 (Option.bind x21.2.1[(Int.toNat x21.2.2.1)]? fun y28 =>
 (Option.bind (F227 (!((Op.bytesLess y27.1 y28.1) || (y27.1 == y28.1)))) fun y29 =>
 (er_1 ((IntKind.wrap IntKind.i64 ((IntKind.wrap IntKind.i64 ((2 : Int) * y29.1)) - (1 : Int))), ())))))))
 (gd (decide ((0 : Int) ≤ x21.2.2.1))
 (Option.bind x21.1[(Int.toNat x21.2.2.1)]? fun y30 =>
 (gd (decide ((0 : Int) ≤ x21.2.2.1))
 (Option.bind x21.2.1[(Int.toNat x21.2.2.1)]? fun y31 =>
 (Option.bind (g y30.2.1 y31.2.1) fun y32 =>
 (cond (y32.1 != (0 : Int))
 (er_1 (y32.1, ()))
 (rec (x21.1, x21.2.1, (IntKind.wrap IntKind.i64 (x21.2.2.1 + (1 : Int))), ())))))))))))))
 (e3_0 (x21.1, x21.2.1, ())))
 (e3_0 (x21.1, x21.2.1, ())))
noncomputable def B185 (g : G185) (a0 : D84) (a1 : D84) : Option (Int × Unit) :=
 (cond (a0.1 != a1.1)
 (Option.bind (F227 (decide (a0.1 > a1.1))) fun y1 =>
 (some ((IntKind.wrap IntKind.i64 ((IntKind.wrap IntKind.i64 ((2 : Int) * y1.1)) - (1 : Int))), ())))
 (cond (a0.2.1 != a1.2.1)
 (Option.bind (F227 (decide (a0.2.1 > a1.2.1))) fun y2 =>
 (some ((IntKind.wrap IntKind.i64 ((IntKind.wrap IntKind.i64 ((2 : Int) * y2.1)) - (1 : Int))), ())))
 (cond (a0.2.2.1 == a1.2.2.1)
 (some ((0 : Int), ()))
 (cond (a0.1 == (3 : Int))
 (Option.bind (F227 (!((Op.bytesLess a0.2.2.1 a1.2.2.1) || (a0.2.2.1 == a1.2.2.1)))) fun y3 =>
 (some ((IntKind.wrap IntKind.i64 ((IntKind.wrap IntKind.i64 ((2 : Int) * y3.1)) - (1 : Int))), ())))
 (cond (a0.1 == (4 : Int))
 (Option.bind (F224 a0.2.2.1) fun y4 =>
 (Option.bind (F224 a1.2.2.1) fun y5 =>
 (iter (B185_R13 g
 (fun y14 =>
 (Option.bind (F227 (decide ((((List.length y14.1) : Nat) : Int) > (((List.length y14.2.1) : Nat) : Int)))) fun y16 =>
 (some ((IntKind.wrap IntKind.i64 ((IntKind.wrap IntKind.i64 ((2 : Int) * y16.1)) - (1 : Int))), ()))))
 (fun y15 =>
 (some (y15.1, ())))) fuel (y4.1, y5.1, (0 : Int), ()))))
 (Option.bind (F144 a0.2.2.1) fun y17 =>
 (Option.bind (F144 a1.2.2.1) fun y18 =>
 (iter (B185_R22 g
 (fun y33 =>
 (Option.bind (F227 (decide ((((List.length y33.1) : Nat) : Int) > (((List.length y33.2.1) : Nat) : Int)))) fun y35 =>
 (some ((IntKind.wrap IntKind.i64 ((IntKind.wrap IntKind.i64 ((2 : Int) * y35.1)) - (1 : Int))), ()))))
 (fun y34 =>
 (some (y34.1, ())))) fuel (y17.1, y18.1, (0 : Int), ())))))))))
noncomputable def K185 (g : G185) : Fun := ⟨[(.ro Y84), (.ro Y84)], [((.int .i64), .z)], fun z => B185 g z.1 z.2.1⟩
noncomputable def E185 (g : G185) : Env := ⟨182, tyTab tys, oneTab ones, fnTab [(144, C144), (185, (H185 g)), (224, C224), (227, C227)], false, [], [(13, [5, 7, 9], []), (14, [5, 7, 9], []), (15, [5, 7, 9], []), (18, [5, 7], []), (19, [2, 3], []), (22, [11, 13, 15], []), (23, [11, 13, 15], []), (24, [11, 13, 15], []), (26, [11, 13, 15], []), (29, [11, 13], []), (100000, [2, 3], []), (100001, [5, 7], []), (100002, [5, 7, 9], []), (100003, [11, 13], []), (100004, [11, 13, 15], []), (99999, [4], [])], none, [], []⟩
noncomputable def L185 (g : G185) : List (LoopS (Int × Unit)) := [⟨13, ⟨[(5, (.pv (.slice Y84))), (7, (.pv (.slice Y84))), (9, (.pv (.int .i64)))], []⟩, fun κ => B185_R13 g (fun y => κ.exit 1 (SSh.mk' ⟨[(5, (.pv (.slice Y84))), (7, (.pv (.slice Y84)))], []⟩ y)) (fun y => κ.ret (SSh.mk' ⟨[(4, (.pv (.int .i64)))], []⟩ y))⟩,
  ⟨22, ⟨[(11, (.pv (.slice Y180))), (13, (.pv (.slice Y180))), (15, (.pv (.int .i64)))], []⟩, fun κ => B185_R22 g (fun y => κ.exit 3 (SSh.mk' ⟨[(11, (.pv (.slice Y180))), (13, (.pv (.slice Y180)))], []⟩ y)) (fun y => κ.ret (SSh.mk' ⟨[(4, (.pv (.int .i64)))], []⟩ y))⟩]
theorem L185_22 (g : G185) : RoundEq (E185 g) (L185 g) ((L185 g)[1]'(Nat.le_of_ble_eq_true rfl)) (nthLoop (codeOf Tryz.f185) 1) := fun κ N x => by kernel_rfl
theorem L185_13 (g : G185) : RoundEq (E185 g) (L185 g) ((L185 g)[0]'(Nat.le_of_ble_eq_true rfl)) (nthLoop (codeOf Tryz.f185) 0) := fun κ N x => by kernel_rfl
theorem K185_ok (g : G185) (hg : QuietOk Tryz.prog 185 (H185 g)) : QuietOk Tryz.prog 185 (K185 g) := tQ (E185 g) (L185 g) [nthLoop (codeOf Tryz.f185) 0, nthLoop (codeOf Tryz.f185) 1] Tryz.func185 ty_ok (.cons C144_ok (.cons hg (.cons C224_ok (.cons C227_ok .nil)))) (.cons ((L185 g)[0]'(Nat.le_of_ble_eq_true rfl)) (by kernel_rfl) (L185_13 g) (.cons ((L185 g)[1]'(Nat.le_of_ble_eq_true rfl)) (by kernel_rfl) (L185_22 g) .nil))
noncomputable def S185 : Nat → G185
  | 0 => fun _ _ => none
  | k + 1 => B185 (S185 k)
noncomputable def F185 : G185 := S185 fuel
noncomputable def C185 : Fun := H185 F185
theorem C185_all : ∀ k, QuietOk Tryz.prog 185 (H185 (S185 k))
  | 0 => QuietOk.none Tryz.func185 (by rfl) (by decide) fun _ => rfl
  | k + 1 => K185_ok (S185 k) (C185_all k)
theorem C185_ok : QuietOk Tryz.prog 185 C185 := C185_all fuel
noncomputable def F226_R18 (e1_0 : Unit → Option (Bool × Unit)) (er_1 : Bool × Unit → Option (Bool × Unit)) (rec : List (D84) × Int × D84 × Unit → Option (Bool × Unit)) (x6 : List (D84) × Int × D84 × Unit) : Option (Bool × Unit) :=
 (cond (decide (x6.2.1 < (((List.length x6.1) : Nat) : Int)))
 (gd (decide ((0 : Int) ≤ x6.2.1))
 (Option.bind x6.1[(Int.toNat x6.2.1)]? fun y9 =>
 (cond ((decide (y9.1 = x6.2.2.1.1)) && ((decide (y9.2.1 = x6.2.2.1.2.1)) && ((y9.2.2.1 == x6.2.2.1.2.2.1) && true)))
 (er_1 (true, ()))
 (rec (x6.1, (IntKind.wrap IntKind.i64 (x6.2.1 + (1 : Int))), x6.2.2.1, ())))))
 (e1_0 (())))
noncomputable def F226 (a0 : D170) (a1 : D84) : Option (Bool × Unit) :=
 (Option.bind (F185 a1 a0.2.2.1) fun y0 =>
 (let j18 : Unit → Option (Bool × Unit) := fun (y19 : Unit) =>
 (some (true, ()))
 (cond (a0.1 == (1 : Int))
 (cond (a0.1 == (1 : Int))
 (some (((decide (a1.1 = a0.2.2.1.1)) && ((decide (a1.2.1 = a0.2.2.1.2.1)) && ((a1.2.2.1 == a0.2.2.1.2.2.1) && true))), ()))
 (cond (a0.1 == (3 : Int))
 (cond (a1.1 == a0.2.2.1.1)
 (some ((decide (y0.1 < (0 : Int))), ()))
 (some (false, ())))
 (cond (a0.1 == (4 : Int))
 (cond (a1.1 == a0.2.2.1.1)
 (some ((decide (y0.1 ≤ (0 : Int))), ()))
 (some (false, ())))
 (cond (a0.1 == (5 : Int))
 (cond (a1.1 == a0.2.2.1.1)
 (some ((decide (y0.1 > (0 : Int))), ()))
 (some (false, ())))
 (cond (a0.1 == (6 : Int))
 (cond (a1.1 == a0.2.2.1.1)
 (some ((decide (y0.1 ≥ (0 : Int))), ()))
 (some (false, ())))
 (cond (a0.1 == (7 : Int))
 (Option.bind (F224 a0.2.2.1.2.2.1) fun y3 =>
 (iter (F226_R18
 (fun y10 =>
 (some (false, ())))
 (fun y11 =>
 (some (y11.1, ())))) fuel (y3.1, (0 : Int), a1, ())))
 (cond (a0.1 == (9 : Int))
 (some ((a1.1 == a0.2.2.1.2.1), ()))
 (cond (a0.1 == (10 : Int))
 (Option.bind (F224 a1.2.2.1) fun y12 =>
 (cond (a1.1 == (4 : Int))
 (some (((((List.length y12.1) : Nat) : Int) == a0.2.2.1.2.1), ()))
 (some (false, ()))))
 (j18 (()))))))))))
 (cond (a0.1 == (2 : Int))
 (some (((decide (a1.1 = a0.2.2.1.1)) && ((decide (a1.2.1 = a0.2.2.1.2.1)) && ((a1.2.2.1 == a0.2.2.1.2.2.1) && true))), ()))
 (cond (a0.1 == (3 : Int))
 (cond (a1.1 == a0.2.2.1.1)
 (some ((decide (y0.1 < (0 : Int))), ()))
 (some (false, ())))
 (cond (a0.1 == (4 : Int))
 (cond (a1.1 == a0.2.2.1.1)
 (some ((decide (y0.1 ≤ (0 : Int))), ()))
 (some (false, ())))
 (cond (a0.1 == (5 : Int))
 (cond (a1.1 == a0.2.2.1.1)
 (some ((decide (y0.1 > (0 : Int))), ()))
 (some (false, ())))
 (cond (a0.1 == (6 : Int))
 (cond (a1.1 == a0.2.2.1.1)
 (some ((decide (y0.1 ≥ (0 : Int))), ()))
 (some (false, ())))
 (cond (a0.1 == (7 : Int))
 (Option.bind (F224 a0.2.2.1.2.2.1) fun y13 =>
 (iter (F226_R18
 (fun y15 =>
 (some (false, ())))
 (fun y16 =>
 (some (y16.1, ())))) fuel (y13.1, (0 : Int), a1, ())))
 (cond (a0.1 == (9 : Int))
 (some ((a1.1 == a0.2.2.1.2.1), ()))
 (cond (a0.1 == (10 : Int))
 (Option.bind (F224 a1.2.2.1) fun y17 =>
 (cond (a1.1 == (4 : Int))
 (some (((((List.length y17.1) : Nat) : Int) == a0.2.2.1.2.1), ()))
 (some (false, ()))))
 (j18 (())))))))))))))
noncomputable def C226 : Fun := ⟨[(.ro Y170), (.ro Y84)], [(.bool, .z)], fun z => F226 z.1 z.2.1⟩
noncomputable def E226 : Env := ⟨107, tyTab tys, oneTab ones, fnTab [(185, C185), (224, C224)], false, [], [(18, [3, 7, 9], []), (19, [3, 7, 9], []), (20, [3, 7, 9], []), (22, [], []), (28, [], []), (100000, [], []), (100001, [], []), (100002, [3, 7, 9], []), (99999, [4], [])], none, [], []⟩
noncomputable def L226 : List (LoopS (Bool × Unit)) := [⟨18, ⟨[(3, (.ptr 24 [])), (7, (.pv (.slice Y84))), (9, (.pv (.int .i64)))], [(24, (.data true Y84 .z))]⟩, fun κ => F226_R18 (fun y => κ.exit 1 (SSh.mk' ⟨[], []⟩ y)) (fun y => κ.ret (SSh.mk' ⟨[(4, (.pv .bool))], []⟩ y))⟩]
theorem L226_18 : RoundEq E226 L226 L226[0] (nthLoop (codeOf Tryz.f226) 0) := fun κ N x => by kernel_rfl
theorem C226_ok : QuietOk Tryz.prog 226 C226 := tQ E226 L226 [nthLoop (codeOf Tryz.f226) 0] Tryz.func226 ty_ok (.cons C185_ok (.cons C224_ok .nil)) (.cons L226[0] (by kernel_rfl) L226_18 .nil)
noncomputable def F184_R8 (e0_0 : Bool × D170 × Unit → Option (Bool × Unit)) (rec : List (D84) × Bool × Int × D170 × Unit → Option (Bool × Unit)) (x7 : List (D84) × Bool × Int × D170 × Unit) : Option (Bool × Unit) :=
 (cond (decide (x7.2.2.1 < (((List.length x7.1) : Nat) : Int)))
 (cond x7.2.1
 (rec (x7.1, true, (IntKind.wrap IntKind.i64 (x7.2.2.1 + (1 : Int))), x7.2.2.2.1, ()))
 (gd (decide ((0 : Int) ≤ x7.2.2.1))
 (Option.bind x7.1[(Int.toNat x7.2.2.1)]? fun y9 =>
 (Option.bind (F226 x7.2.2.2.1 y9) fun y10 =>
 (rec (x7.1, y10.1, (IntKind.wrap IntKind.i64 (x7.2.2.1 + (1 : Int))), x7.2.2.2.1, ()))))))
 (e0_0 (x7.2.1, x7.2.2.2.1, ())))
noncomputable def F184 (a0 : D170) (a1 : D84) : Option (Bool × Unit) :=
 (Option.bind (F225 a1 a0.2.1) fun y0 =>
 (cond (a0.1 == (8 : Int))
 (some (((decide ((((List.length y0.1) : Nat) : Int) > (0 : Int))) == (a0.2.2.1.2.1 == (1 : Int))), ()))
 (let j3 : List (D84) × D170 × Unit → Option (Bool × Unit) := fun (y4 : List (D84) × D170 × Unit) =>
 (iter (F184_R8
 (fun y11 =>
 (some ((!(y11.1 == (y11.2.1.1 == (2 : Int)))), ())))) fuel (y4.1, false, (0 : Int), y4.2.1, ()))
 (cond ((((List.length y0.1) : Nat) : Int) == (0 : Int))
 (cond (a0.1 != (9 : Int))
 (j3 ([((0 : Int), ((0 : Int), ([], ())))], a0, ()))
 (j3 (y0.1, a0, ())))
 (j3 (y0.1, a0, ()))))))
noncomputable def C184 : Fun := ⟨[(.ro Y170), (.ro Y84)], [(.bool, .z)], fun z => F184 z.1 z.2.1⟩
noncomputable def E184 : Env := ⟨53, tyTab tys, oneTab ones, fnTab [(225, C225), (226, C226)], false, [256], [(4, [2, 5], []), (6, [2, 5], []), (8, [2, 5, 6, 7], []), (10, [2, 5, 6, 7], []), (11, [2, 6], []), (100000, [2, 6], []), (100001, [2, 5, 6, 7], []), (99999, [4], [])], none, [], []⟩
noncomputable def L184 : List (LoopS (Bool × Unit)) := [⟨8, ⟨[(2, (.ptr 16 [])), (5, (.pv (.slice Y84))), (6, (.pv .bool)), (7, (.pv (.int .i64)))], [(16, (.data true Y170 .z))]⟩, fun κ => F184_R8 (fun y => κ.exit 0 (SSh.mk' ⟨[(2, (.ptr 16 [])), (6, (.pv .bool))], [(16, (.data true Y170 .z))]⟩ y))⟩]
theorem L184_8 : RoundEq E184 L184 L184[0] (nthLoop (codeOf Tryz.f184) 0) := fun κ N x => by kernel_rfl
theorem C184_ok : QuietOk Tryz.prog 184 C184 := tQ E184 L184 [nthLoop (codeOf Tryz.f184) 0] Tryz.func184 ty_ok (.cons C225_ok (.cons C226_ok .nil)) (.cons L184[0] (by kernel_rfl) L184_8 .nil)
noncomputable def F142_R2 (e0_0 : Unit → Option (Bool × Unit)) (er_1 : Bool × Unit → Option (Bool × Unit)) (rec : Int × D157 × D84 × Unit → Option (Bool × Unit)) (x2 : Int × D157 × D84 × Unit) : Option (Bool × Unit) :=
 (cond (decide (x2.1 < (((List.length x2.2.1.1) : Nat) : Int)))
 (gd (decide ((0 : Int) ≤ x2.1))
 (Option.bind x2.2.1.1[(Int.toNat x2.1)]? fun y5 =>
 (Option.bind (F184 y5 x2.2.2.1) fun y6 =>
 (cond (!y6.1)
 (er_1 (false, ()))
 (rec ((IntKind.wrap IntKind.i64 (x2.1 + (1 : Int))), x2.2.1, x2.2.2.1, ()))))))
 (e0_0 (())))
noncomputable def F142 (a0 : D157) (a1 : D84) : Option (Bool × Unit) :=
 (iter (F142_R2
 (fun y7 =>
 (some (true, ())))
 (fun y8 =>
 (some (y8.1, ())))) fuel ((0 : Int), a0, a1, ()))
noncomputable def C142 : Fun := ⟨[(.ro Y157), (.ro Y84)], [(.bool, .z)], fun z => F142 z.1 z.2.1⟩
noncomputable def E142 : Env := ⟨21, tyTab tys, oneTab ones, fnTab [(184, C184)], false, [], [(2, [2, 3, 5], []), (3, [2, 3, 5], []), (4, [2, 3, 5], []), (6, [], []), (100000, [], []), (100001, [2, 3, 5], []), (99999, [4], [])], none, [], []⟩
noncomputable def L142 : List (LoopS (Bool × Unit)) := [⟨2, ⟨[(2, (.ptr 16 [])), (3, (.ptr 24 [])), (5, (.pv (.int .i64)))], [(16, (.data true Y157 .z)), (24, (.data true Y84 .z))]⟩, fun κ => F142_R2 (fun y => κ.exit 0 (SSh.mk' ⟨[], []⟩ y)) (fun y => κ.ret (SSh.mk' ⟨[(4, (.pv .bool))], []⟩ y))⟩]
theorem L142_2 : RoundEq E142 L142 L142[0] (nthLoop (codeOf Tryz.f142) 0) := fun κ N x => by kernel_rfl
theorem C142_ok : QuietOk Tryz.prog 142 C142 := tQ E142 L142 [nthLoop (codeOf Tryz.f142) 0] Tryz.func142 ty_ok (.cons C184_ok .nil) (.cons L142[0] (by kernel_rfl) L142_2 .nil)
noncomputable def F98_R2 (e0_0 : Unit → Option (Bool × Unit)) (er_1 : Bool × Unit → Option (Bool × Unit)) (rec : Int × D44 × D84 × Unit → Option (Bool × Unit)) (x2 : Int × D44 × D84 × Unit) : Option (Bool × Unit) :=
 (cond (decide (x2.1 < (((List.length x2.2.1.1) : Nat) : Int)))
 (gd (decide ((0 : Int) ≤ x2.1))
 (Option.bind x2.2.1.1[(Int.toNat x2.1)]? fun y5 =>
 (Option.bind (F142 y5 x2.2.2.1) fun y6 =>
 (cond y6.1
 (er_1 (true, ()))
 (rec ((IntKind.wrap IntKind.i64 (x2.1 + (1 : Int))), x2.2.1, x2.2.2.1, ()))))))
 (e0_0 (())))
noncomputable def F98 (a0 : D44) (a1 : D84) : Option (Bool × Unit) :=
 (iter (F98_R2
 (fun y7 =>
 (some (false, ())))
 (fun y8 =>
 (some (y8.1, ())))) fuel ((0 : Int), a0, a1, ()))
noncomputable def C98 : Fun := ⟨[(.ro Y44), (.ro Y84)], [(.bool, .z)], fun z => F98 z.1 z.2.1⟩
noncomputable def E98 : Env := ⟨20, tyTab tys, oneTab ones, fnTab [(142, C142)], false, [], [(2, [2, 3, 5], []), (3, [2, 3, 5], []), (4, [2, 3, 5], []), (6, [], []), (100000, [], []), (100001, [2, 3, 5], []), (99999, [4], [])], none, [], []⟩
noncomputable def L98 : List (LoopS (Bool × Unit)) := [⟨2, ⟨[(2, (.ptr 16 [])), (3, (.ptr 24 [])), (5, (.pv (.int .i64)))], [(16, (.data true Y44 .z)), (24, (.data true Y84 .z))]⟩, fun κ => F98_R2 (fun y => κ.exit 0 (SSh.mk' ⟨[], []⟩ y)) (fun y => κ.ret (SSh.mk' ⟨[(4, (.pv .bool))], []⟩ y))⟩]
theorem L98_2 : RoundEq E98 L98 L98[0] (nthLoop (codeOf Tryz.f98) 0) := fun κ N x => by kernel_rfl
theorem C98_ok : QuietOk Tryz.prog 98 C98 := tQ E98 L98 [nthLoop (codeOf Tryz.f98) 0] Tryz.func98 ty_ok (.cons C142_ok .nil) (.cons L98[0] (by kernel_rfl) L98_2 .nil)
noncomputable def F121 (a0 : D103) (a1 : D108) : Option (Bool × Unit) :=
 (cond (!(a0.1 == a1.1.1))
 (some (false, ()))
 (cond a1.2.2.1
 (Option.bind (F98 a0.2.1 a1.2.1) fun y1 =>
 (cond y1.1
 (some (true, ()))
 (cond (!a1.1.2.2.1)
 (Option.bind (F98 a0.2.1 a1.1.2.2.2.1) fun y2 =>
 (some (y2.1, ())))
 (some (false, ())))))
 (cond (!a1.1.2.2.1)
 (Option.bind (F98 a0.2.1 a1.1.2.2.2.1) fun y3 =>
 (some (y3.1, ())))
 (some (false, ())))))
noncomputable def C121 : Fun := ⟨[(.ro Y103), (.ro Y108)], [(.bool, .z)], fun z => F121 z.1 z.2.1⟩
noncomputable def E121 : Env := ⟨34, tyTab tys, oneTab ones, fnTab [(98, C98)], false, [], [(3, [2, 3], []), (99999, [4], [])], none, [], []⟩
noncomputable def L121 : List (LoopS (Bool × Unit)) := []
theorem C121_ok : QuietOk Tryz.prog 121 C121 := tQ E121 L121 [] Tryz.func121 ty_ok (.cons C98_ok .nil) .nil
noncomputable def F73_R5 (e2_0 : List (D103) × List (D108) × Int × Unit → Option (Bool × Unit)) (er_1 : Bool × Unit → Option (Bool × Unit)) (rec : List (D103) × List (D108) × Int × Int × Unit → Option (Bool × Unit)) (x6 : List (D103) × List (D108) × Int × Int × Unit) : Option (Bool × Unit) :=
 (cond (decide (x6.2.2.2.1 < (((List.length x6.2.1) : Nat) : Int)))
 (gd (decide ((0 : Int) ≤ x6.2.2.1))
 (Option.bind x6.1[(Int.toNat x6.2.2.1)]? fun y9 =>
 (gd (decide ((0 : Int) ≤ x6.2.2.2.1))
 (Option.bind x6.2.1[(Int.toNat x6.2.2.2.1)]? fun y10 =>
 (Option.bind (F121 y9 y10) fun y11 =>
 (cond y11.1
 (er_1 (true, ()))
 (rec (x6.1, x6.2.1, x6.2.2.1, (IntKind.wrap IntKind.i64 (x6.2.2.2.1 + (1 : Int))), ()))))))))
 (e2_0 (x6.1, x6.2.1, x6.2.2.1, ())))
noncomputable def F73_R2 (e0_0 : Unit → Option (Bool × Unit)) (er_1 : Bool × Unit → Option (Bool × Unit)) (rec : List (D103) × List (D108) × Int × Unit → Option (Bool × Unit)) (x2 : List (D103) × List (D108) × Int × Unit) : Option (Bool × Unit) :=
 (cond (decide (x2.2.2.1 < (((List.length x2.1) : Nat) : Int)))
 (iter (F73_R5
 (fun y12 =>
 (rec (y12.1, y12.2.1, (IntKind.wrap IntKind.i64 (y12.2.2.1 + (1 : Int))), ())))
 (fun y13 =>
 (er_1 (y13.1, ())))) fuel (x2.1, x2.2.1, x2.2.2.1, (0 : Int), ()))
 (e0_0 (())))
noncomputable def F73 (a0 : List (D103)) (a1 : List (D108)) : Option (Bool × Unit) :=
 (iter (F73_R2
 (fun y14 =>
 (some (false, ())))
 (fun y15 =>
 (some (y15.1, ())))) fuel (a0, a1, (0 : Int), ()))
noncomputable def C73 : Fun := ⟨[(.ro (.slice Y103)), (.ro (.slice Y108))], [(.bool, .z)], fun z => F73 z.1 z.2.1⟩
noncomputable def E73 : Env := ⟨28, tyTab tys, oneTab ones, fnTab [(121, C121)], false, [], [(2, [0, 1, 5], []), (3, [0, 1, 5], []), (4, [0, 1, 5], []), (5, [0, 1, 5, 6], []), (6, [0, 1, 5, 6], []), (7, [0, 1, 5, 6], []), (9, [], []), (100000, [], []), (100001, [0, 1, 5], []), (100002, [0, 1, 5], []), (100003, [0, 1, 5, 6], []), (99999, [4], [])], none, [], []⟩
noncomputable def L73 : List (LoopS (Bool × Unit)) := [⟨5, ⟨[(0, (.pv (.slice Y103))), (1, (.pv (.slice Y108))), (5, (.pv (.int .i64))), (6, (.pv (.int .i64)))], []⟩, fun κ => F73_R5 (fun y => κ.exit 2 (SSh.mk' ⟨[(0, (.pv (.slice Y103))), (1, (.pv (.slice Y108))), (5, (.pv (.int .i64)))], []⟩ y)) (fun y => κ.ret (SSh.mk' ⟨[(4, (.pv .bool))], []⟩ y))⟩,
  ⟨2, ⟨[(0, (.pv (.slice Y103))), (1, (.pv (.slice Y108))), (5, (.pv (.int .i64)))], []⟩, fun κ => F73_R2 (fun y => κ.exit 0 (SSh.mk' ⟨[], []⟩ y)) (fun y => κ.ret (SSh.mk' ⟨[(4, (.pv .bool))], []⟩ y))⟩]
theorem L73_5 : RoundEq E73 L73 L73[0] (nthLoop (codeOf Tryz.f73) 1) := fun κ N x => by kernel_rfl
theorem L73_2 : RoundEq E73 L73 L73[1] (nthLoop (codeOf Tryz.f73) 0) := fun κ N x => by kernel_rfl
theorem C73_ok : QuietOk Tryz.prog 73 C73 := tQ E73 L73 [nthLoop (codeOf Tryz.f73) 0, nthLoop (codeOf Tryz.f73) 1] Tryz.func73 ty_ok (.cons C121_ok .nil) (.cons L73[1] (by kernel_rfl) L73_2 (.cons L73[0] (by kernel_rfl) L73_5 .nil))
noncomputable def F31_R3 (e0_0 : List (D25) × D25 × List (D25) × Unit → Option (List (D25) × Int × Unit)) (er_1 : List (D25) × Int × Unit → Option (List (D25) × Int × Unit)) (rec : List (D25) × Int × D25 × List (D25) × Unit → Option (List (D25) × Int × Unit)) (x2 : List (D25) × Int × D25 × List (D25) × Unit) : Option (List (D25) × Int × Unit) :=
 (cond (decide (x2.2.1 < (((List.length x2.2.2.2.1) : Nat) : Int)))
 (let j8 : List (D25) × Int × D25 × List (D25) × Unit → Option (List (D25) × Int × Unit) := fun (y9 : List (D25) × Int × D25 × List (D25) × Unit) =>
 (rec (y9.1, (IntKind.wrap IntKind.i64 (y9.2.1 + (1 : Int))), y9.2.2.1, y9.2.2.2.1, ()))
 (gd (decide ((0 : Int) ≤ x2.2.1))
 (gd (decide (x2.2.1 < (((List.length x2.2.2.2.1) : Nat) : Int)))
 (Option.bind x2.2.2.2.1[(Int.toNat x2.2.1)]? fun y5 =>
 (cond (decide (y5.2.1 > x2.2.2.1.1))
 (gd (decide ((0 : Int) ≤ x2.2.1))
 (gd (decide (x2.2.1 < (((List.length x2.2.2.2.1) : Nat) : Int)))
 (Option.bind x2.2.2.2.1[(Int.toNat x2.2.1)]? fun y6 =>
 (Option.bind (F72 y6.2.2.2.1 x2.2.2.1.2.2.2.1) fun y7 =>
 (cond y7.1
 (er_1 (x2.1, (15 : Int), ()))
 (j8 (x2.1, x2.2.1, x2.2.2.1, x2.2.2.2.1, ())))))))
 (j8 (x2.1, x2.2.1, x2.2.2.1, x2.2.2.2.1, ())))))))
 (e0_0 (x2.1, x2.2.2.1, x2.2.2.2.1, ())))
noncomputable def F31_R10 (e2_0 : List (D25) × D25 × List (D25) × Unit → Option (List (D25) × Int × Unit)) (er_1 : List (D25) × Int × Unit → Option (List (D25) × Int × Unit)) (rec : List (D25) × Int × D25 × List (D25) × Unit → Option (List (D25) × Int × Unit)) (x14 : List (D25) × Int × D25 × List (D25) × Unit) : Option (List (D25) × Int × Unit) :=
 (cond (decide (x14.2.1 < (((List.length x14.2.2.2.1) : Nat) : Int)))
 (let j33 : List (D25) × Int × D25 × List (D25) × Unit → Option (List (D25) × Int × Unit) := fun (y34 : List (D25) × Int × D25 × List (D25) × Unit) =>
 (rec (y34.1, (IntKind.wrap IntKind.i64 (y34.2.1 + (1 : Int))), y34.2.2.1, y34.2.2.2.1, ()))
 (gd (decide ((0 : Int) ≤ x14.2.1))
 (gd (decide (x14.2.1 < (((List.length x14.2.2.2.1) : Nat) : Int)))
 (Option.bind x14.2.2.2.1[(Int.toNat x14.2.1)]? fun y18 =>
 (cond (decide (y18.2.1 ≤ x14.2.2.1.1))
 (j33 (x14.1, x14.2.1, x14.2.2.1, x14.2.2.2.1, ()))
 (let j23 : List (D25) × Int × Nat × D25 × List (D25) × Unit → Option (List (D25) × Int × Unit) := fun (y24 : List (D25) × Int × Nat × D25 × List (D25) × Unit) =>
 (let j29 : List (D25) × Int × Nat × D25 × List (D25) × Unit → Option (List (D25) × Int × Unit) := fun (y30 : List (D25) × Int × Nat × D25 × List (D25) × Unit) =>
 (Option.bind y30.2.2.2.2.1[y30.2.2.1]? fun y31 =>
 (cond y31.2.2.2.2.1
 (Option.bind y30.2.2.2.2.1[y30.2.2.1]? fun y32 =>
 (cond y32.2.2.2.2.2.1
 (er_1 (y30.1, (16 : Int), ()))
 (j33 (y30.1, y30.2.1, y30.2.2.2.1, y30.2.2.2.2.1, ()))))
 (j33 (y30.1, y30.2.1, y30.2.2.2.1, y30.2.2.2.2.1, ()))))
 (Option.bind y24.2.2.2.2.1[y24.2.2.1]? fun y26 =>
 (Option.bind (F73 y26.2.2.1 y24.2.2.2.1.2.2.2.1) fun y27 =>
 (cond y27.1
 (Option.bind y24.2.2.2.2.1[y24.2.2.1]? fun y28 =>
 (j29 (y24.1, y24.2.1, y24.2.2.1, (y24.2.2.2.1.1, (y24.2.2.2.1.2.1, (y24.2.2.2.1.2.2.1, (y24.2.2.2.1.2.2.2.1, (true, y24.2.2.2.1.2.2.2.2.2))))), (List.set y24.2.2.2.2.1 y24.2.2.1 (y28.1, (y28.2.1, (y28.2.2.1, (y28.2.2.2.1, (y28.2.2.2.2.1, (true, y28.2.2.2.2.2.2))))))), ())))
 (j29 (y24.1, y24.2.1, y24.2.2.1, y24.2.2.2.1, y24.2.2.2.2.1, ()))))))
 (Option.bind x14.2.2.2.1[(Int.toNat x14.2.1)]? fun y20 =>
 (Option.bind (F73 x14.2.2.1.2.2.1 y20.2.2.2.1) fun y21 =>
 (cond y21.1
 (Option.bind x14.2.2.2.1[(Int.toNat x14.2.1)]? fun y22 =>
 (j23 (x14.1, x14.2.1, (Int.toNat x14.2.1), (x14.2.2.1.1, (x14.2.2.1.2.1, (x14.2.2.1.2.2.1, (x14.2.2.1.2.2.2.1, (x14.2.2.1.2.2.2.2.1, (true, x14.2.2.1.2.2.2.2.2.2)))))), (List.set x14.2.2.2.1 (Int.toNat x14.2.1) (y22.1, (y22.2.1, (y22.2.2.1, (y22.2.2.2.1, (true, y22.2.2.2.2.2)))))), ())))
 (j23 (x14.1, x14.2.1, (Int.toNat x14.2.1), x14.2.2.1, x14.2.2.2.1, ())))))))))))
 (e2_0 (x14.1, x14.2.2.1, x14.2.2.2.1, ())))
noncomputable def F31 (a0 : List (D25)) (a1 : D25) : Option (List (D25) × Int × Unit) :=
 (gd (decide (((List.length ([] : List D25)) + (List.length a0)) ≤ lim))
 (iter (F31_R3
 (fun y10 =>
 (iter (F31_R10
 (fun y35 =>
 (let j38 : List (D25) × D25 × List (D25) × Unit → Option (List (D25) × Int × Unit) := fun (y39 : List (D25) × D25 × List (D25) × Unit) =>
 (cond ((((List.length y39.2.2.1) : Nat) : Int) == (30 : Int))
 (some (y39.1, ((7 : Int), ())))
 (gd (decide (((List.length y39.2.2.1) + (List.length [y39.2.1])) ≤ lim))
 (some ((y39.2.2.1 ++ [y39.2.1]), ((0 : Int), ())))))
 (cond y35.2.1.2.2.2.2.1
 (cond y35.2.1.2.2.2.2.2.1
 (some (y35.1, ((16 : Int), ())))
 (j38 (y35.1, y35.2.1, y35.2.2.1, ())))
 (j38 (y35.1, y35.2.1, y35.2.2.1, ())))))
 (fun y36 =>
 (some (y36.1, (y36.2.1, ()))))) fuel (y10.1, (0 : Int), (y10.2.1.1, (y10.2.1.2.1, (y10.2.1.2.2.1, (y10.2.1.2.2.2.1, (false, (false, y10.2.1.2.2.2.2.2.2)))))), y10.2.2.1, ())))
 (fun y11 =>
 (some (y11.1, (y11.2.1, ()))))) fuel (a0, (0 : Int), a1, ([] ++ a0), ())))
noncomputable def C31 : Fun := ⟨[(.ro (.slice Y25)), (.ro Y25)], [((.slice Y25), .z), ((.int .i64), .z)], fun z => F31 z.1 z.2.1⟩
noncomputable def E31 : Env := ⟨104, tyTab tys, oneTab ones, fnTab [(72, C72), (73, C73)], false, [], [(3, [0, 3, 6, 7], []), (4, [0, 3, 6, 7], []), (5, [0, 3, 6, 7], []), (7, [0, 3, 6], []), (10, [0, 3, 6, 8], []), (11, [0, 3, 6, 8], []), (12, [0, 3, 6, 8], []), (14, [0, 3, 6, 8, 9], []), (17, [0, 3, 6, 8, 9], []), (20, [0, 3, 6, 8, 9], []), (22, [0, 3, 6], []), (24, [0, 3, 6], []), (26, [3, 6], []), (100000, [0, 3, 6], []), (100001, [0, 3, 6, 7], []), (100002, [0, 3, 6], []), (100003, [0, 3, 6, 8], []), (99999, [4, 5], [])], none, [], []⟩
noncomputable def L31 : List (LoopS (List (D25) × Int × Unit)) := [⟨3, ⟨[(0, (.pv (.slice Y25))), (3, (.ptr 24 [])), (6, (.ref (.slice Y25) 80 [])), (7, (.pv (.int .i64)))], [(24, (.data true Y25 .z)), (80, (.data false (.slice Y25) (.own .z)))]⟩, fun κ => F31_R3 (fun y => κ.exit 0 (SSh.mk' ⟨[(0, (.pv (.slice Y25))), (3, (.ptr 24 [])), (6, (.ref (.slice Y25) 80 []))], [(24, (.data true Y25 .z)), (80, (.data false (.slice Y25) (.own .z)))]⟩ y)) (fun y => κ.ret (SSh.mk' ⟨[(4, (.pv (.slice Y25))), (5, (.pv (.int .i64)))], []⟩ y))⟩,
  ⟨10, ⟨[(0, (.pv (.slice Y25))), (3, (.ptr 24 [])), (6, (.ref (.slice Y25) 80 [])), (8, (.pv (.int .i64)))], [(24, (.data true Y25 .z)), (80, (.data false (.slice Y25) (.own .z)))]⟩, fun κ => F31_R10 (fun y => κ.exit 2 (SSh.mk' ⟨[(0, (.pv (.slice Y25))), (3, (.ptr 24 [])), (6, (.ref (.slice Y25) 80 []))], [(24, (.data true Y25 .z)), (80, (.data false (.slice Y25) (.own .z)))]⟩ y)) (fun y => κ.ret (SSh.mk' ⟨[(4, (.pv (.slice Y25))), (5, (.pv (.int .i64)))], []⟩ y))⟩]
theorem L31_10 : RoundEq E31 L31 L31[1] (nthLoop (codeOf Tryz.f31) 1) := fun κ N x => by kernel_rfl
theorem L31_3 : RoundEq E31 L31 L31[0] (nthLoop (codeOf Tryz.f31) 0) := fun κ N x => by kernel_rfl
theorem C31_ok : QuietOk Tryz.prog 31 C31 := tQ E31 L31 [nthLoop (codeOf Tryz.f31) 0, nthLoop (codeOf Tryz.f31) 1] Tryz.func31 ty_ok (.cons C72_ok (.cons C73_ok .nil)) (.cons L31[0] (by kernel_rfl) L31_3 (.cons L31[1] (by kernel_rfl) L31_10 .nil))
noncomputable def F74_R7 (e2_0 : List (D103) × Int × List (D103) × List (D157) × Unit → Option (List (D103) × Unit)) (rec : List (D103) × Int × Int × List (D103) × List (D157) × Unit → Option (List (D103) × Unit)) (x7 : List (D103) × Int × Int × List (D103) × List (D157) × Unit) : Option (List (D103) × Unit) :=
 (gd (decide ((0 : Int) ≤ x7.2.1))
 (Option.bind x7.1[(Int.toNat x7.2.1)]? fun y9 =>
 (cond (decide (x7.2.2.1 < (((List.length y9.2.1.1) : Nat) : Int)))
 (gd (decide ((0 : Int) ≤ x7.2.1))
 (Option.bind x7.1[(Int.toNat x7.2.1)]? fun y10 =>
 (gd (decide ((0 : Int) ≤ x7.2.2.1))
 (Option.bind y10.2.1.1[(Int.toNat x7.2.2.1)]? fun y11 =>
 (gd (decide (((List.length ([] : List D170)) + (List.length y11.1)) ≤ lim))
 (gd (decide (((List.length x7.2.2.2.2.1) + (List.length [(([] ++ y11.1), ())])) ≤ lim))
 (rec (x7.1, x7.2.1, (IntKind.wrap IntKind.i64 (x7.2.2.1 + (1 : Int))), x7.2.2.2.1, (x7.2.2.2.2.1 ++ [(([] ++ y11.1), ())]), ()))))))))
 (e2_0 (x7.1, x7.2.1, x7.2.2.2.1, x7.2.2.2.2.1, ())))))
noncomputable def F74_R3 (e0_0 : List (D103) × Unit → Option (List (D103) × Unit)) (rec : List (D103) × Int × List (D103) × Unit → Option (List (D103) × Unit)) (x2 : List (D103) × Int × List (D103) × Unit) : Option (List (D103) × Unit) :=
 (cond (decide (x2.2.1 < (((List.length x2.1) : Nat) : Int)))
 (iter (F74_R7
 (fun y12 =>
 (gd (decide ((0 : Int) ≤ y12.2.1))
 (Option.bind y12.1[(Int.toNat y12.2.1)]? fun y13 =>
 (gd (decide (((List.length y12.2.2.1) + (List.length [(y13.1, ((y12.2.2.2.1, ()), ()))])) ≤ lim))
 (rec (y12.1, (IntKind.wrap IntKind.i64 (y12.2.1 + (1 : Int))), (y12.2.2.1 ++ [(y13.1, ((y12.2.2.2.1, ()), ()))]), ()))))))) fuel (x2.1, x2.2.1, (0 : Int), x2.2.2.1, [], ()))
 (e0_0 (x2.2.2.1, ())))
noncomputable def F74 (a0 : List (D103)) : Option (List (D103) × Unit) :=
 (iter (F74_R3
 (fun y14 =>
 (some (y14.1, ())))) fuel (a0, (0 : Int), [], ()))
noncomputable def C74 : Fun := ⟨[(.ro (.slice Y103))], [((.slice Y103), (.own (.pr .z (.pr (.pr (.own (.pr (.own .z) .z)) .z) .z))))], fun z => F74 z.1⟩
noncomputable def E74 : Env := ⟨54, tyTab tys, oneTab ones, fnTab [], true, [], [(3, [0, 3, 4], []), (4, [0, 3, 4], []), (5, [0, 3, 4], []), (7, [0, 3, 4, 5, 6], []), (9, [0, 3, 4, 5, 6], []), (10, [0, 3, 4, 5], []), (11, [3], []), (100000, [3], []), (100001, [0, 3, 4], []), (100002, [0, 3, 4, 5], []), (100003, [0, 3, 4, 5, 6], []), (99999, [2], [])], none, [], []⟩
noncomputable def L74 : List (LoopS (List (D103) × Unit)) := [⟨7, ⟨[(0, (.pv (.slice Y103))), (3, (.ref (.slice Y103) 56 [])), (4, (.pv (.int .i64))), (5, (.ref (.slice Y157) 112 [])), (6, (.pv (.int .i64)))], [(56, (.data false (.slice Y103) (.own (.pr .z (.pr (.pr (.own (.pr (.own .z) .z)) .z) .z))))), (112, (.data false (.slice Y157) (.own (.pr (.own .z) .z))))]⟩, fun κ => F74_R7 (fun y => κ.exit 2 (SSh.mk' ⟨[(0, (.pv (.slice Y103))), (3, (.ref (.slice Y103) 56 [])), (4, (.pv (.int .i64))), (5, (.ref (.slice Y157) 112 []))], [(56, (.data false (.slice Y103) (.own (.pr .z (.pr (.pr (.own (.pr (.own .z) .z)) .z) .z))))), (112, (.data false (.slice Y157) (.own (.pr (.own .z) .z))))]⟩ y))⟩,
  ⟨3, ⟨[(0, (.pv (.slice Y103))), (3, (.ref (.slice Y103) 56 [])), (4, (.pv (.int .i64)))], [(56, (.data false (.slice Y103) (.own (.pr .z (.pr (.pr (.own (.pr (.own .z) .z)) .z) .z)))))]⟩, fun κ => F74_R3 (fun y => κ.exit 0 (SSh.mk' ⟨[(3, (.ref (.slice Y103) 56 []))], [(56, (.data false (.slice Y103) (.own (.pr .z (.pr (.pr (.own (.pr (.own .z) .z)) .z) .z)))))]⟩ y))⟩]
theorem L74_7 : RoundEq E74 L74 L74[0] (nthLoop (codeOf Tryz.f74) 1) := fun κ N x => by kernel_rfl
theorem L74_3 : RoundEq E74 L74 L74[1] (nthLoop (codeOf Tryz.f74) 0) := fun κ N x => by kernel_rfl
theorem C74_ok : FreshOk Tryz.prog 74 C74 := tF E74 L74 [nthLoop (codeOf Tryz.f74) 0, nthLoop (codeOf Tryz.f74) 1] Tryz.func74 ty_ok .nil (.cons L74[1] (by kernel_rfl) L74_3 (.cons L74[0] (by kernel_rfl) L74_7 .nil))
noncomputable def F32_R3 (e0_0 : List (D25) × Unit → Option (List (D25) × Unit)) (rec : List (D25) × Int × List (D25) × Unit → Option (List (D25) × Unit)) (x2 : List (D25) × Int × List (D25) × Unit) : Option (List (D25) × Unit) :=
 (cond (decide (x2.2.1 < (((List.length x2.1) : Nat) : Int)))
 (gd (decide ((0 : Int) ≤ x2.2.1))
 (Option.bind x2.1[(Int.toNat x2.2.1)]? fun y4 =>
 (Option.bind (F74 y4.2.2.1) fun y5 =>
 (gd (decide (((List.length ([] : List D108)) + (List.length y4.2.2.2.1)) ≤ lim))
 (gd (decide (((List.length x2.2.2.1) + (List.length [(y4.1, (y4.2.1, (y5.1, (([] ++ y4.2.2.2.1), y4.2.2.2.2))))])) ≤ lim))
 (rec (x2.1, (IntKind.wrap IntKind.i64 (x2.2.1 + (1 : Int))), (x2.2.2.1 ++ [(y4.1, (y4.2.1, (y5.1, (([] ++ y4.2.2.2.1), y4.2.2.2.2))))]), ())))))))
 (e0_0 (x2.2.2.1, ())))
noncomputable def F32 (a0 : List (D25)) : Option (List (D25) × Unit) :=
 (iter (F32_R3
 (fun y6 =>
 (some (y6.1, ())))) fuel (a0, (0 : Int), [], ()))
noncomputable def C32 : Fun := ⟨[(.ro (.slice Y25))], [((.slice Y25), (.own (.pr .z (.pr .z (.pr (.own (.pr .z (.pr (.pr (.own (.pr (.own .z) .z)) .z) .z))) (.pr (.own .z) .z))))))], fun z => F32 z.1⟩
noncomputable def E32 : Env := ⟨31, tyTab tys, oneTab ones, fnTab [(74, C74)], true, [], [(3, [0, 3, 4], []), (5, [0, 3, 4], []), (9, [3], []), (100000, [3], []), (100001, [0, 3, 4], []), (99999, [2], [])], none, [], []⟩
noncomputable def L32 : List (LoopS (List (D25) × Unit)) := [⟨3, ⟨[(0, (.pv (.slice Y25))), (3, (.ref (.slice Y25) 48 [])), (4, (.pv (.int .i64)))], [(48, (.data false (.slice Y25) (.own (.pr .z (.pr .z (.pr (.own (.pr .z (.pr (.pr (.own (.pr (.own .z) .z)) .z) .z))) (.pr (.own .z) .z)))))))]⟩, fun κ => F32_R3 (fun y => κ.exit 0 (SSh.mk' ⟨[(3, (.ref (.slice Y25) 48 []))], [(48, (.data false (.slice Y25) (.own (.pr .z (.pr .z (.pr (.own (.pr .z (.pr (.pr (.own (.pr (.own .z) .z)) .z) .z))) (.pr (.own .z) .z)))))))]⟩ y))⟩]
theorem L32_3 : RoundEq E32 L32 L32[0] (nthLoop (codeOf Tryz.f32) 0) := fun κ N x => by kernel_rfl
theorem C32_ok : FreshOk Tryz.prog 32 C32 := tF E32 L32 [nthLoop (codeOf Tryz.f32) 0] Tryz.func32 ty_ok (.consFr C74_ok .nil) (.cons L32[0] (by kernel_rfl) L32_3 .nil)
noncomputable def F7 (a0 : List (D25)) (a1 : D25) : Option (List (D25) × Int × Unit) :=
 (cond (decide ((((List.length a0) : Nat) : Int) > (4096 : Int)))
 (some ([], ((2 : Int), ())))
 (Option.bind (F29 a0) fun y2 =>
 (cond (!y2.1)
 (some ([], ((1 : Int), ())))
 (Option.bind (F30 a1) fun y3 =>
 (cond (!y3.1)
 (some ([], ((1 : Int), ())))
 (let j6 : List (D25) × D25 × Unit → Option (List (D25) × Int × Unit) := fun (y7 : List (D25) × D25 × Unit) =>
 (Option.bind (F31 y7.1 y7.2.1) fun y8 =>
 (Option.bind (F32 y8.1) fun y9 =>
 (some (y9.1, (y8.2.1, ())))))
 (cond (decide ((((List.length a0) : Nat) : Int) > (0 : Int)))
 (gd (decide ((0 : Int) ≤ (IntKind.wrap IntKind.i64 ((((List.length a0) : Nat) : Int) - (1 : Int)))))
 (Option.bind a0[(Int.toNat (IntKind.wrap IntKind.i64 ((((List.length a0) : Nat) : Int) - (1 : Int))))]? fun y5 =>
 (cond (decide (y5.2.1 ≥ a1.2.1))
 (some ([], ((19 : Int), ())))
 (j6 (a0, a1, ())))))
 (j6 (a0, a1, ())))))))))
noncomputable def C7 : Fun := ⟨[(.ro (.slice Y25)), (.ro Y25)], [((.slice Y25), (.own (.pr .z (.pr .z (.pr (.own (.pr .z (.pr (.pr (.own (.pr (.own .z) .z)) .z) .z))) (.pr (.own .z) .z)))))), ((.int .i64), .z)], fun z => F7 z.1 z.2.1⟩
noncomputable def E7 : Env := ⟨46, tyTab tys, oneTab ones, fnTab [(29, C29), (30, C30), (31, C31), (32, C32)], true, [], [(3, [0, 3], []), (5, [0, 3], []), (7, [0, 3], []), (99999, [4, 5], [])], none, [], []⟩
noncomputable def L7 : List (LoopS (List (D25) × Int × Unit)) := []
theorem C7_ok : FreshOk Tryz.prog 7 C7 := tF E7 L7 [] Tryz.func7 ty_ok (.cons C29_ok (.cons C30_ok (.cons C31_ok (.consFr C32_ok .nil)))) .nil
noncomputable def F56 (a0 : D84) : Option (D84 × Unit) :=
 (some ((a0.1, (a0.2.1, (a0.2.2.1, ()))), ()))
noncomputable def C56 : Fun := ⟨[(.ro Y84)], [(Y84, .z)], fun z => F56 z.1⟩
noncomputable def E56 : Env := ⟨14, tyTab tys, oneTab ones, fnTab [], true, [], [(99999, [2], [])], none, [], []⟩
noncomputable def L56 : List (LoopS (D84 × Unit)) := []
theorem C56_ok : QuietOk Tryz.prog 56 C56 := tQ E56 L56 [] Tryz.func56 ty_ok .nil .nil
noncomputable def F229 (a0 : D170) : Option (D170 × Unit) :=
 (Option.bind (F56 a0.2.2.1) fun y0 =>
 (some ((a0.1, (a0.2.1, (y0.1, ()))), ())))
noncomputable def C229 : Fun := ⟨[(.ro Y170)], [(Y170, .z)], fun z => F229 z.1⟩
noncomputable def E229 : Env := ⟨15, tyTab tys, oneTab ones, fnTab [(56, C56)], true, [], [(99999, [2], [])], none, [], []⟩
noncomputable def L229 : List (LoopS (D170 × Unit)) := []
theorem C229_ok : QuietOk Tryz.prog 229 C229 := tQ E229 L229 [] Tryz.func229 ty_ok (.cons C56_ok .nil) .nil
noncomputable def F190_R3 (e0_0 : List (D170) × Unit → Option D157) (rec : List (D170) × Int × List (D170) × Unit → Option D157) (x2 : List (D170) × Int × List (D170) × Unit) : Option D157 :=
 (cond (decide (x2.2.1 < (((List.length x2.1) : Nat) : Int)))
 (gd (decide ((0 : Int) ≤ x2.2.1))
 (Option.bind x2.1[(Int.toNat x2.2.1)]? fun y4 =>
 (Option.bind (F229 y4) fun y5 =>
 (gd (decide ((0 : Int) ≤ x2.2.1))
 (gd (decide (x2.2.1 < (((List.length x2.2.2.1) : Nat) : Int)))
 (Option.bind x2.2.2.1[(Int.toNat x2.2.1)]? fun y6 =>
 (rec (x2.1, (IntKind.wrap IntKind.i64 (x2.2.1 + (1 : Int))), (List.set x2.2.2.1 (Int.toNat x2.2.1) y5.1), ()))))))))
 (e0_0 (x2.2.2.1, ())))
noncomputable def F190 (a0 : List (D170)) : Option D157 :=
 (gd (decide ((((List.length a0) : Nat) : Int) ≤ ((4294967296 : Nat) : Int)))
 (gd (decide ((((List.length a0) : Nat) : Int) ≤ (((Int.toNat (((List.length a0) : Nat) : Int)) : Nat) : Int)))
 (iter (F190_R3
 (fun y7 =>
 (some (y7.1, ())))) fuel (a0, (0 : Int), (List.replicate (Int.toNat (((List.length a0) : Nat) : Int)) ((0 : Int), ([], (((0 : Int), ((0 : Int), ([], ()))), ())))), ()))))
noncomputable def C190 : Fun := ⟨[(.ro (.slice Y170))], [((.slice Y170), (.own .z))], fun z => F190 z.1⟩
noncomputable def E190 : Env := ⟨23, tyTab tys, oneTab ones, fnTab [(229, C229)], true, [], [(3, [0, 3, 4], []), (5, [0, 3, 4], []), (6, [3], []), (100000, [3], []), (100001, [0, 3, 4], []), (99999, [2], [])], none, [], []⟩
noncomputable def L190 : List (LoopS D157) := [⟨3, ⟨[(0, (.pv (.slice Y170))), (3, (.ref (.slice Y170) 56 [])), (4, (.pv (.int .i64)))], [(56, (.data false (.slice Y170) (.own .z)))]⟩, fun κ => F190_R3 (fun y => κ.exit 0 (SSh.mk' ⟨[(3, (.ref (.slice Y170) 56 []))], [(56, (.data false (.slice Y170) (.own .z)))]⟩ y))⟩]
theorem L190_3 : RoundEq E190 L190 L190[0] (nthLoop (codeOf Tryz.f190) 0) := fun κ N x => by kernel_rfl
theorem C190_ok : FreshOk Tryz.prog 190 C190 := tF E190 L190 [nthLoop (codeOf Tryz.f190) 0] Tryz.func190 ty_ok (.cons C229_ok .nil) (.cons L190[0] (by kernel_rfl) L190_3 .nil)
noncomputable def F146 (a0 : D157) : Option (D157 × Unit) :=
 (Option.bind (F190 a0.1) fun y0 =>
 (some ((y0.1, ()), ())))
noncomputable def C146 : Fun := ⟨[(.ro Y157)], [(Y157, (.pr (.own .z) .z))], fun z => F146 z.1⟩
noncomputable def E146 : Env := ⟨9, tyTab tys, oneTab ones, fnTab [(190, C190)], true, [], [(99999, [2], [])], none, [], []⟩
noncomputable def L146 : List (LoopS (D157 × Unit)) := []
theorem C146_ok : FreshOk Tryz.prog 146 C146 := tF E146 L146 [] Tryz.func146 ty_ok (.consFr C190_ok .nil) .nil
noncomputable def F101_R3 (e0_0 : List (D157) × Unit → Option D44) (rec : List (D157) × Int × List (D157) × Unit → Option D44) (x2 : List (D157) × Int × List (D157) × Unit) : Option D44 :=
 (cond (decide (x2.2.1 < (((List.length x2.1) : Nat) : Int)))
 (gd (decide ((0 : Int) ≤ x2.2.1))
 (Option.bind x2.1[(Int.toNat x2.2.1)]? fun y4 =>
 (Option.bind (F146 y4) fun y5 =>
 (gd (decide ((0 : Int) ≤ x2.2.1))
 (gd (decide (x2.2.1 < (((List.length x2.2.2.1) : Nat) : Int)))
 (Option.bind x2.2.2.1[(Int.toNat x2.2.1)]? fun y6 =>
 (rec (x2.1, (IntKind.wrap IntKind.i64 (x2.2.1 + (1 : Int))), (List.set x2.2.2.1 (Int.toNat x2.2.1) y5.1), ()))))))))
 (e0_0 (x2.2.2.1, ())))
noncomputable def F101 (a0 : List (D157)) : Option D44 :=
 (gd (decide ((((List.length a0) : Nat) : Int) ≤ ((4294967296 : Nat) : Int)))
 (gd (decide ((((List.length a0) : Nat) : Int) ≤ (((Int.toNat (((List.length a0) : Nat) : Int)) : Nat) : Int)))
 (iter (F101_R3
 (fun y7 =>
 (some (y7.1, ())))) fuel (a0, (0 : Int), (List.replicate (Int.toNat (((List.length a0) : Nat) : Int)) ([], ())), ()))))
noncomputable def C101 : Fun := ⟨[(.ro (.slice Y157))], [((.slice Y157), (.own (.pr (.own .z) .z)))], fun z => F101 z.1⟩
noncomputable def E101 : Env := ⟨23, tyTab tys, oneTab ones, fnTab [(146, C146)], true, [], [(3, [0, 3, 4], []), (5, [0, 3, 4], []), (6, [3], []), (100000, [3], []), (100001, [0, 3, 4], []), (99999, [2], [])], none, [], []⟩
noncomputable def L101 : List (LoopS D44) := [⟨3, ⟨[(0, (.pv (.slice Y157))), (3, (.ref (.slice Y157) 56 [])), (4, (.pv (.int .i64)))], [(56, (.data false (.slice Y157) (.own (.pr (.own .z) .z))))]⟩, fun κ => F101_R3 (fun y => κ.exit 0 (SSh.mk' ⟨[(3, (.ref (.slice Y157) 56 []))], [(56, (.data false (.slice Y157) (.own (.pr (.own .z) .z))))]⟩ y))⟩]
theorem L101_3 : RoundEq E101 L101 L101[0] (nthLoop (codeOf Tryz.f101) 0) := fun κ N x => by kernel_rfl
theorem C101_ok : FreshOk Tryz.prog 101 C101 := tF E101 L101 [nthLoop (codeOf Tryz.f101) 0] Tryz.func101 ty_ok (.consFr C146_ok .nil) (.cons L101[0] (by kernel_rfl) L101_3 .nil)
noncomputable def F53 (a0 : D44) : Option (D44 × Unit) :=
 (Option.bind (F101 a0.1) fun y0 =>
 (some ((y0.1, ()), ())))
noncomputable def C53 : Fun := ⟨[(.ro Y44)], [(Y44, (.pr (.own (.pr (.own .z) .z)) .z))], fun z => F53 z.1⟩
noncomputable def E53 : Env := ⟨9, tyTab tys, oneTab ones, fnTab [(101, C101)], true, [], [(99999, [2], [])], none, [], []⟩
noncomputable def L53 : List (LoopS (D44 × Unit)) := []
theorem C53_ok : FreshOk Tryz.prog 53 C53 := tF E53 L53 [] Tryz.func53 ty_ok (.consFr C101_ok .nil) .nil
noncomputable def F75 (a0 : D103) : Option (D103 × Unit) :=
 (Option.bind (F53 a0.2.1) fun y0 =>
 (some ((a0.1, (y0.1, ())), ())))
noncomputable def C75 : Fun := ⟨[(.ro Y103)], [(Y103, (.pr .z (.pr (.pr (.own (.pr (.own .z) .z)) .z) .z)))], fun z => F75 z.1⟩
noncomputable def E75 : Env := ⟨12, tyTab tys, oneTab ones, fnTab [(53, C53)], true, [], [(99999, [2], [])], none, [], []⟩
noncomputable def L75 : List (LoopS (D103 × Unit)) := []
theorem C75_ok : FreshOk Tryz.prog 75 C75 := tF E75 L75 [] Tryz.func75 ty_ok (.consFr C53_ok .nil) .nil
noncomputable def F33_R3 (e0_0 : List (D103) × Unit → Option (List (D103) × Unit)) (rec : List (D103) × Int × List (D103) × Unit → Option (List (D103) × Unit)) (x2 : List (D103) × Int × List (D103) × Unit) : Option (List (D103) × Unit) :=
 (cond (decide (x2.2.1 < (((List.length x2.1) : Nat) : Int)))
 (gd (decide ((0 : Int) ≤ x2.2.1))
 (Option.bind x2.1[(Int.toNat x2.2.1)]? fun y4 =>
 (Option.bind (F75 y4) fun y5 =>
 (gd (decide ((0 : Int) ≤ x2.2.1))
 (gd (decide (x2.2.1 < (((List.length x2.2.2.1) : Nat) : Int)))
 (Option.bind x2.2.2.1[(Int.toNat x2.2.1)]? fun y6 =>
 (rec (x2.1, (IntKind.wrap IntKind.i64 (x2.2.1 + (1 : Int))), (List.set x2.2.2.1 (Int.toNat x2.2.1) y5.1), ()))))))))
 (e0_0 (x2.2.2.1, ())))
noncomputable def F33 (a0 : List (D103)) : Option (List (D103) × Unit) :=
 (gd (decide ((((List.length a0) : Nat) : Int) ≤ ((4294967296 : Nat) : Int)))
 (gd (decide ((((List.length a0) : Nat) : Int) ≤ (((Int.toNat (((List.length a0) : Nat) : Int)) : Nat) : Int)))
 (iter (F33_R3
 (fun y7 =>
 (some (y7.1, ())))) fuel (a0, (0 : Int), (List.replicate (Int.toNat (((List.length a0) : Nat) : Int)) ([], (([], ()), ()))), ()))))
noncomputable def C33 : Fun := ⟨[(.ro (.slice Y103))], [((.slice Y103), (.own (.pr .z (.pr (.pr (.own (.pr (.own .z) .z)) .z) .z))))], fun z => F33 z.1⟩
noncomputable def E33 : Env := ⟨23, tyTab tys, oneTab ones, fnTab [(75, C75)], true, [], [(3, [0, 3, 4], []), (5, [0, 3, 4], []), (6, [3], []), (100000, [3], []), (100001, [0, 3, 4], []), (99999, [2], [])], none, [], []⟩
noncomputable def L33 : List (LoopS (List (D103) × Unit)) := [⟨3, ⟨[(0, (.pv (.slice Y103))), (3, (.ref (.slice Y103) 56 [])), (4, (.pv (.int .i64)))], [(56, (.data false (.slice Y103) (.own (.pr .z (.pr (.pr (.own (.pr (.own .z) .z)) .z) .z)))))]⟩, fun κ => F33_R3 (fun y => κ.exit 0 (SSh.mk' ⟨[(3, (.ref (.slice Y103) 56 []))], [(56, (.data false (.slice Y103) (.own (.pr .z (.pr (.pr (.own (.pr (.own .z) .z)) .z) .z)))))]⟩ y))⟩]
theorem L33_3 : RoundEq E33 L33 L33[0] (nthLoop (codeOf Tryz.f33) 0) := fun κ N x => by kernel_rfl
theorem C33_ok : FreshOk Tryz.prog 33 C33 := tF E33 L33 [nthLoop (codeOf Tryz.f33) 0] Tryz.func33 ty_ok (.consFr C75_ok .nil) (.cons L33[0] (by kernel_rfl) L33_3 .nil)
noncomputable def F122 (a0 : D106) : Option (D106 × Unit) :=
 (Option.bind (F56 a0.2.2.2.1) fun y0 =>
 (some ((a0.1, (a0.2.1, (a0.2.2.1, (y0.1, ())))), ())))
noncomputable def C122 : Fun := ⟨[(.ro Y106)], [(Y106, .z)], fun z => F122 z.1⟩
noncomputable def E122 : Env := ⟨18, tyTab tys, oneTab ones, fnTab [(56, C56)], true, [], [(99999, [2], [])], none, [], []⟩
noncomputable def L122 : List (LoopS (D106 × Unit)) := []
theorem C122_ok : QuietOk Tryz.prog 122 C122 := tQ E122 L122 [] Tryz.func122 ty_ok (.cons C56_ok .nil) .nil
noncomputable def F76 (a0 : D108) : Option (D108 × Unit) :=
 (Option.bind (F122 a0.1) fun y0 =>
 (Option.bind (F56 a0.2.1) fun y1 =>
 (some ((y0.1, (y1.1, (a0.2.2.1, ()))), ()))))
noncomputable def C76 : Fun := ⟨[(.ro Y108)], [(Y108, .z)], fun z => F76 z.1⟩
noncomputable def E76 : Env := ⟨16, tyTab tys, oneTab ones, fnTab [(56, C56), (122, C122)], true, [], [(99999, [2], [])], none, [], []⟩
noncomputable def L76 : List (LoopS (D108 × Unit)) := []
theorem C76_ok : QuietOk Tryz.prog 76 C76 := tQ E76 L76 [] Tryz.func76 ty_ok (.cons C56_ok (.cons C122_ok .nil)) .nil
noncomputable def F34_R3 (e0_0 : List (D108) × Unit → Option (List (D108) × Unit)) (rec : List (D108) × Int × List (D108) × Unit → Option (List (D108) × Unit)) (x2 : List (D108) × Int × List (D108) × Unit) : Option (List (D108) × Unit) :=
 (cond (decide (x2.2.1 < (((List.length x2.1) : Nat) : Int)))
 (gd (decide ((0 : Int) ≤ x2.2.1))
 (Option.bind x2.1[(Int.toNat x2.2.1)]? fun y4 =>
 (Option.bind (F76 y4) fun y5 =>
 (gd (decide ((0 : Int) ≤ x2.2.1))
 (gd (decide (x2.2.1 < (((List.length x2.2.2.1) : Nat) : Int)))
 (Option.bind x2.2.2.1[(Int.toNat x2.2.1)]? fun y6 =>
 (rec (x2.1, (IntKind.wrap IntKind.i64 (x2.2.1 + (1 : Int))), (List.set x2.2.2.1 (Int.toNat x2.2.1) y5.1), ()))))))))
 (e0_0 (x2.2.2.1, ())))
noncomputable def F34 (a0 : List (D108)) : Option (List (D108) × Unit) :=
 (gd (decide ((((List.length a0) : Nat) : Int) ≤ ((4294967296 : Nat) : Int)))
 (gd (decide ((((List.length a0) : Nat) : Int) ≤ (((Int.toNat (((List.length a0) : Nat) : Int)) : Nat) : Int)))
 (iter (F34_R3
 (fun y7 =>
 (some (y7.1, ())))) fuel (a0, (0 : Int), (List.replicate (Int.toNat (((List.length a0) : Nat) : Int)) (([], ((0 : Int), (false, (((0 : Int), ((0 : Int), ([], ()))), ())))), (((0 : Int), ((0 : Int), ([], ()))), (false, ())))), ()))))
noncomputable def C34 : Fun := ⟨[(.ro (.slice Y108))], [((.slice Y108), (.own .z))], fun z => F34 z.1⟩
noncomputable def E34 : Env := ⟨23, tyTab tys, oneTab ones, fnTab [(76, C76)], true, [], [(3, [0, 3, 4], []), (5, [0, 3, 4], []), (6, [3], []), (100000, [3], []), (100001, [0, 3, 4], []), (99999, [2], [])], none, [], []⟩
noncomputable def L34 : List (LoopS (List (D108) × Unit)) := [⟨3, ⟨[(0, (.pv (.slice Y108))), (3, (.ref (.slice Y108) 56 [])), (4, (.pv (.int .i64)))], [(56, (.data false (.slice Y108) (.own .z)))]⟩, fun κ => F34_R3 (fun y => κ.exit 0 (SSh.mk' ⟨[(3, (.ref (.slice Y108) 56 []))], [(56, (.data false (.slice Y108) (.own .z)))]⟩ y))⟩]
theorem L34_3 : RoundEq E34 L34 L34[0] (nthLoop (codeOf Tryz.f34) 0) := fun κ N x => by kernel_rfl
theorem C34_ok : FreshOk Tryz.prog 34 C34 := tF E34 L34 [nthLoop (codeOf Tryz.f34) 0] Tryz.func34 ty_ok (.cons C76_ok .nil) (.cons L34[0] (by kernel_rfl) L34_3 .nil)
noncomputable def F9 (a0 : D25) : Option (D25 × Unit) :=
 (Option.bind (F33 a0.2.2.1) fun y0 =>
 (Option.bind (F34 a0.2.2.2.1) fun y1 =>
 (some ((a0.1, (a0.2.1, (y0.1, (y1.1, (a0.2.2.2.2.1, (a0.2.2.2.2.2.1, ())))))), ()))))
noncomputable def C9 : Fun := ⟨[(.ro Y25)], [(Y25, (.pr .z (.pr .z (.pr (.own (.pr .z (.pr (.pr (.own (.pr (.own .z) .z)) .z) .z))) (.pr (.own .z) .z)))))], fun z => F9 z.1⟩
noncomputable def E9 : Env := ⟨25, tyTab tys, oneTab ones, fnTab [(33, C33), (34, C34)], true, [], [(99999, [2], [])], none, [], []⟩
noncomputable def L9 : List (LoopS (D25 × Unit)) := []
theorem C9_ok : FreshOk Tryz.prog 9 C9 := tF E9 L9 [] Tryz.func9 ty_ok (.consFr C33_ok (.consFr C34_ok .nil)) .nil
noncomputable def F8_R3 (e0_0 : List (D25) × Unit → Option (List (D25) × Unit)) (rec : List (D25) × Int × List (D25) × Unit → Option (List (D25) × Unit)) (x2 : List (D25) × Int × List (D25) × Unit) : Option (List (D25) × Unit) :=
 (cond (decide (x2.2.1 < (((List.length x2.1) : Nat) : Int)))
 (gd (decide ((0 : Int) ≤ x2.2.1))
 (Option.bind x2.1[(Int.toNat x2.2.1)]? fun y4 =>
 (Option.bind (F9 y4) fun y5 =>
 (gd (decide ((0 : Int) ≤ x2.2.1))
 (gd (decide (x2.2.1 < (((List.length x2.2.2.1) : Nat) : Int)))
 (Option.bind x2.2.2.1[(Int.toNat x2.2.1)]? fun y6 =>
 (rec (x2.1, (IntKind.wrap IntKind.i64 (x2.2.1 + (1 : Int))), (List.set x2.2.2.1 (Int.toNat x2.2.1) y5.1), ()))))))))
 (e0_0 (x2.2.2.1, ())))
noncomputable def F8 (a0 : List (D25)) : Option (List (D25) × Unit) :=
 (gd (decide ((((List.length a0) : Nat) : Int) ≤ ((4294967296 : Nat) : Int)))
 (gd (decide ((((List.length a0) : Nat) : Int) ≤ (((Int.toNat (((List.length a0) : Nat) : Int)) : Nat) : Int)))
 (iter (F8_R3
 (fun y7 =>
 (some (y7.1, ())))) fuel (a0, (0 : Int), (List.replicate (Int.toNat (((List.length a0) : Nat) : Int)) ((0 : Int), ((0 : Int), ([], ([], (false, (false, ()))))))), ()))))
noncomputable def C8 : Fun := ⟨[(.ro (.slice Y25))], [((.slice Y25), (.own (.pr .z (.pr .z (.pr (.own (.pr .z (.pr (.pr (.own (.pr (.own .z) .z)) .z) .z))) (.pr (.own .z) .z))))))], fun z => F8 z.1⟩
noncomputable def E8 : Env := ⟨23, tyTab tys, oneTab ones, fnTab [(9, C9)], true, [], [(3, [0, 3, 4], []), (5, [0, 3, 4], []), (6, [3], []), (100000, [3], []), (100001, [0, 3, 4], []), (99999, [2], [])], none, [], []⟩
noncomputable def L8 : List (LoopS (List (D25) × Unit)) := [⟨3, ⟨[(0, (.pv (.slice Y25))), (3, (.ref (.slice Y25) 56 [])), (4, (.pv (.int .i64)))], [(56, (.data false (.slice Y25) (.own (.pr .z (.pr .z (.pr (.own (.pr .z (.pr (.pr (.own (.pr (.own .z) .z)) .z) .z))) (.pr (.own .z) .z)))))))]⟩, fun κ => F8_R3 (fun y => κ.exit 0 (SSh.mk' ⟨[(3, (.ref (.slice Y25) 56 []))], [(56, (.data false (.slice Y25) (.own (.pr .z (.pr .z (.pr (.own (.pr .z (.pr (.pr (.own (.pr (.own .z) .z)) .z) .z))) (.pr (.own .z) .z)))))))]⟩ y))⟩]
theorem L8_3 : RoundEq E8 L8 L8[0] (nthLoop (codeOf Tryz.f8) 0) := fun κ N x => by kernel_rfl
theorem C8_ok : FreshOk Tryz.prog 8 C8 := tF E8 L8 [nthLoop (codeOf Tryz.f8) 0] Tryz.func8 ty_ok (.consFr C9_ok .nil) (.cons L8[0] (by kernel_rfl) L8_3 .nil)
noncomputable def F123_R2 (e0_0 : Unit → Option (Int × Unit)) (er_1 : Int × Unit → Option (Int × Unit)) (rec : List (D108) × (D108 → Option (Bool)) × Int × Int × Unit → Option (Int × Unit)) (x2 : List (D108) × (D108 → Option (Bool)) × Int × Int × Unit) : Option (Int × Unit) :=
 (cond (decide (x2.2.2.2.1 < x2.2.2.1))
 (gd (decide ((0 : Int) ≤ x2.2.2.2.1))
 (Option.bind x2.1[(Int.toNat x2.2.2.2.1)]? fun y5 =>
 (Option.bind (x2.2.1 y5) fun y6 =>
 (cond y6
 (er_1 (x2.2.2.2.1, ()))
 (rec (x2.1, x2.2.1, x2.2.2.1, (IntKind.wrap IntKind.i64 (x2.2.2.2.1 + (1 : Int))), ()))))))
 (e0_0 (())))
noncomputable def F123 (a0 : List (D108)) (a1 : (D108 → Option (Bool))) : Option (Int × Unit) :=
 (iter (F123_R2
 (fun y7 =>
 (some ((-(1 : Int)), ())))
 (fun y8 =>
 (some (y8.1, ())))) fuel (a0, a1, (((List.length a0) : Nat) : Int), (0 : Int), ()))
noncomputable def C123 : Fun := ⟨[(.ro (.slice Y108)), (.fn Y108 .bool)], [((.int .i64), .z)], fun z => F123 z.1 z.2.1⟩
noncomputable def E123 : Env := ⟨19, tyTab tys, oneTab ones, fnTab [], false, [], [(2, [0, 1, 7, 8], []), (3, [0, 1, 7, 8], []), (6, [0, 1, 7, 8], []), (7, [], []), (100000, [], []), (100001, [0, 1, 7, 8], []), (99999, [4], [])], none, [], []⟩
noncomputable def L123 : List (LoopS (Int × Unit)) := [⟨2, ⟨[(0, (.pv (.slice Y108))), (1, (.fnA Y108 .bool)), (7, (.pv (.int .i64))), (8, (.pv (.int .i64)))], []⟩, fun κ => F123_R2 (fun y => κ.exit 0 (SSh.mk' ⟨[], []⟩ y)) (fun y => κ.ret (SSh.mk' ⟨[(4, (.pv (.int .i64)))], []⟩ y))⟩]
theorem L123_2 : RoundEq E123 L123 L123[0] (nthLoop (codeOf Tryz.f123) 0) := fun κ N x => by kernel_rfl
theorem C123_ok : QuietOk Tryz.prog 123 C123 := tQ E123 L123 [nthLoop (codeOf Tryz.f123) 0] Tryz.func123 ty_ok .nil (.cons L123[0] (by kernel_rfl) L123_2 .nil)
noncomputable def F77 (a0 : List (D108)) (a1 : (D108 → Option (Bool))) : Option (Bool × Unit) :=
 (Option.bind (F123 a0 a1) fun y0 =>
 (some ((decide (y0.1 ≥ (0 : Int))), ())))
noncomputable def C77 : Fun := ⟨[(.ro (.slice Y108)), (.fn Y108 .bool)], [(.bool, .z)], fun z => F77 z.1 z.2.1⟩
noncomputable def E77 : Env := ⟨9, tyTab tys, oneTab ones, fnTab [(123, C123)], false, [], [(99999, [4], [])], none, [], []⟩
noncomputable def L77 : List (LoopS (Bool × Unit)) := []
theorem C77_ok : QuietOk Tryz.prog 77 C77 := tQ E77 L77 [] Tryz.func77 ty_ok (.cons C123_ok .nil) .nil
noncomputable def F79 (a0 : D108) (a1 : D108) : Option (Bool × Unit) :=
 (cond (a0.1.1 == a1.1.1)
 (some ((a0.1.2.1 == a1.1.2.1), ()))
 (some (false, ())))
noncomputable def C79 : Fun := ⟨[(.ro Y108), (.ro Y108)], [(.bool, .z)], fun z => F79 z.1 z.2.1⟩
noncomputable def E79 : Env := ⟨21, tyTab tys, oneTab ones, fnTab [], false, [], [(99999, [4], [])], none, [], []⟩
noncomputable def L79 : List (LoopS (Bool × Unit)) := []
theorem C79_ok : QuietOk Tryz.prog 79 C79 := tQ E79 L79 [] Tryz.func79 ty_ok .nil .nil
noncomputable def F78 (a0 : D108) (a1 : D108) : Option (Bool × Unit) :=
 (Option.bind (F79 a1 a0) fun y0 =>
 (some (y0.1, ())))
noncomputable def C78 : Fun := ⟨[(.ro Y108), (.rp Y108)], [(.bool, .z)], fun z => F78 z.1 z.2.1⟩
noncomputable def E78 : Env := ⟨7, tyTab tys, oneTab ones, fnTab [(79, C79)], false, [], [(99999, [3], [])], none, [], []⟩
noncomputable def L78 : List (LoopS (Bool × Unit)) := []
theorem C78_ok : QuietOk Tryz.prog 78 C78 := tQ E78 L78 [] Tryz.func78 ty_ok (.cons C79_ok .nil) .nil
noncomputable def F105 (a0 : Int) (a1 : Int) (a2 : Int) : Option (Bool × Unit) :=
 (cond (decide (a1 ≤ a0))
 (some ((decide (a0 ≤ a2)), ()))
 (some (false, ())))
noncomputable def C105 : Fun := ⟨[(.ro (.int .i64)), (.ro (.int .i64)), (.ro (.int .i64))], [(.bool, .z)], fun z => F105 z.1 z.2.1 z.2.2.1⟩
noncomputable def E105 : Env := ⟨15, tyTab tys, oneTab ones, fnTab [], false, [], [(99999, [6], [])], none, [], []⟩
noncomputable def L105 : List (LoopS (Bool × Unit)) := []
theorem C105_ok : QuietOk Tryz.prog 105 C105 := tQ E105 L105 [] Tryz.func105 ty_ok .nil .nil
noncomputable def F80 (a0 : Int) : Option (Bool × Unit) :=
 (Option.bind (F105 a0 (1 : Int) (10000 : Int)) fun y0 =>
 (some (y0.1, ())))
noncomputable def C80 : Fun := ⟨[(.ro (.int .i64))], [(.bool, .z)], fun z => F80 z.1⟩
noncomputable def E80 : Env := ⟨5, tyTab tys, oneTab ones, fnTab [(105, C105)], false, [], [(99999, [2], [])], none, [], []⟩
noncomputable def L80 : List (LoopS (Bool × Unit)) := []
theorem C80_ok : QuietOk Tryz.prog 80 C80 := tQ E80 L80 [] Tryz.func80 ty_ok (.cons C105_ok .nil) .nil
noncomputable def F177_R2 (e0_0 : Unit → Option (Int × Unit)) (er_1 : Int × Unit → Option (Int × Unit)) (rec : List (D103) × (D103 → Option (Bool)) × Int × Int × Unit → Option (Int × Unit)) (x2 : List (D103) × (D103 → Option (Bool)) × Int × Int × Unit) : Option (Int × Unit) :=
 (cond (decide (x2.2.2.2.1 < x2.2.2.1))
 (gd (decide ((0 : Int) ≤ x2.2.2.2.1))
 (Option.bind x2.1[(Int.toNat x2.2.2.2.1)]? fun y5 =>
 (Option.bind (x2.2.1 y5) fun y6 =>
 (cond y6
 (er_1 (x2.2.2.2.1, ()))
 (rec (x2.1, x2.2.1, x2.2.2.1, (IntKind.wrap IntKind.i64 (x2.2.2.2.1 + (1 : Int))), ()))))))
 (e0_0 (())))
noncomputable def F177 (a0 : List (D103)) (a1 : (D103 → Option (Bool))) : Option (Int × Unit) :=
 (iter (F177_R2
 (fun y7 =>
 (some ((-(1 : Int)), ())))
 (fun y8 =>
 (some (y8.1, ())))) fuel (a0, a1, (((List.length a0) : Nat) : Int), (0 : Int), ()))
noncomputable def C177 : Fun := ⟨[(.ro (.slice Y103)), (.fn Y103 .bool)], [((.int .i64), .z)], fun z => F177 z.1 z.2.1⟩
noncomputable def E177 : Env := ⟨19, tyTab tys, oneTab ones, fnTab [], false, [], [(2, [0, 1, 7, 8], []), (3, [0, 1, 7, 8], []), (6, [0, 1, 7, 8], []), (7, [], []), (100000, [], []), (100001, [0, 1, 7, 8], []), (99999, [4], [])], none, [], []⟩
noncomputable def L177 : List (LoopS (Int × Unit)) := [⟨2, ⟨[(0, (.pv (.slice Y103))), (1, (.fnA Y103 .bool)), (7, (.pv (.int .i64))), (8, (.pv (.int .i64)))], []⟩, fun κ => F177_R2 (fun y => κ.exit 0 (SSh.mk' ⟨[], []⟩ y)) (fun y => κ.ret (SSh.mk' ⟨[(4, (.pv (.int .i64)))], []⟩ y))⟩]
theorem L177_2 : RoundEq E177 L177 L177[0] (nthLoop (codeOf Tryz.f177) 0) := fun κ N x => by kernel_rfl
theorem C177_ok : QuietOk Tryz.prog 177 C177 := tQ E177 L177 [nthLoop (codeOf Tryz.f177) 0] Tryz.func177 ty_ok .nil (.cons L177[0] (by kernel_rfl) L177_2 .nil)
noncomputable def F124 (a0 : List (D103)) (a1 : (D103 → Option (Bool))) : Option (Bool × Unit) :=
 (Option.bind (F177 a0 a1) fun y0 =>
 (some ((decide (y0.1 ≥ (0 : Int))), ())))
noncomputable def C124 : Fun := ⟨[(.ro (.slice Y103)), (.fn Y103 .bool)], [(.bool, .z)], fun z => F124 z.1 z.2.1⟩
noncomputable def E124 : Env := ⟨9, tyTab tys, oneTab ones, fnTab [(177, C177)], false, [], [(99999, [4], [])], none, [], []⟩
noncomputable def L124 : List (LoopS (Bool × Unit)) := []
theorem C124_ok : QuietOk Tryz.prog 124 C124 := tQ E124 L124 [] Tryz.func124 ty_ok (.cons C177_ok .nil) .nil
noncomputable def F191_R2 (e0_0 : Unit → Option (Int × Unit)) (er_1 : Int × Unit → Option (Int × Unit)) (rec : List (D157) × (D157 → Option (Bool)) × Int × Int × Unit → Option (Int × Unit)) (x2 : List (D157) × (D157 → Option (Bool)) × Int × Int × Unit) : Option (Int × Unit) :=
 (cond (decide (x2.2.2.2.1 < x2.2.2.1))
 (gd (decide ((0 : Int) ≤ x2.2.2.2.1))
 (Option.bind x2.1[(Int.toNat x2.2.2.2.1)]? fun y5 =>
 (Option.bind (x2.2.1 y5) fun y6 =>
 (cond y6
 (er_1 (x2.2.2.2.1, ()))
 (rec (x2.1, x2.2.1, x2.2.2.1, (IntKind.wrap IntKind.i64 (x2.2.2.2.1 + (1 : Int))), ()))))))
 (e0_0 (())))
noncomputable def F191 (a0 : List (D157)) (a1 : (D157 → Option (Bool))) : Option (Int × Unit) :=
 (iter (F191_R2
 (fun y7 =>
 (some ((-(1 : Int)), ())))
 (fun y8 =>
 (some (y8.1, ())))) fuel (a0, a1, (((List.length a0) : Nat) : Int), (0 : Int), ()))
noncomputable def C191 : Fun := ⟨[(.ro (.slice Y157)), (.fn Y157 .bool)], [((.int .i64), .z)], fun z => F191 z.1 z.2.1⟩
noncomputable def E191 : Env := ⟨19, tyTab tys, oneTab ones, fnTab [], false, [], [(2, [0, 1, 7, 8], []), (3, [0, 1, 7, 8], []), (6, [0, 1, 7, 8], []), (7, [], []), (100000, [], []), (100001, [0, 1, 7, 8], []), (99999, [4], [])], none, [], []⟩
noncomputable def L191 : List (LoopS (Int × Unit)) := [⟨2, ⟨[(0, (.pv (.slice Y157))), (1, (.fnA Y157 .bool)), (7, (.pv (.int .i64))), (8, (.pv (.int .i64)))], []⟩, fun κ => F191_R2 (fun y => κ.exit 0 (SSh.mk' ⟨[], []⟩ y)) (fun y => κ.ret (SSh.mk' ⟨[(4, (.pv (.int .i64)))], []⟩ y))⟩]
theorem L191_2 : RoundEq E191 L191 L191[0] (nthLoop (codeOf Tryz.f191) 0) := fun κ N x => by kernel_rfl
theorem C191_ok : QuietOk Tryz.prog 191 C191 := tQ E191 L191 [nthLoop (codeOf Tryz.f191) 0] Tryz.func191 ty_ok .nil (.cons L191[0] (by kernel_rfl) L191_2 .nil)
noncomputable def F147 (a0 : List (D157)) (a1 : (D157 → Option (Bool))) : Option (Bool × Unit) :=
 (Option.bind (F191 a0 a1) fun y0 =>
 (some ((decide (y0.1 ≥ (0 : Int))), ())))
noncomputable def C147 : Fun := ⟨[(.ro (.slice Y157)), (.fn Y157 .bool)], [(.bool, .z)], fun z => F147 z.1 z.2.1⟩
noncomputable def E147 : Env := ⟨9, tyTab tys, oneTab ones, fnTab [(191, C191)], false, [], [(99999, [4], [])], none, [], []⟩
noncomputable def L147 : List (LoopS (Bool × Unit)) := []
theorem C147_ok : QuietOk Tryz.prog 147 C147 := tQ E147 L147 [] Tryz.func147 ty_ok (.cons C191_ok .nil) .nil
noncomputable def F192_R2 (e0_0 : Unit → Option (Int × Unit)) (er_1 : Int × Unit → Option (Int × Unit)) (rec : List (D170) × (D170 → Option (Bool)) × Int × Int × Unit → Option (Int × Unit)) (x2 : List (D170) × (D170 → Option (Bool)) × Int × Int × Unit) : Option (Int × Unit) :=
 (cond (decide (x2.2.2.2.1 < x2.2.2.1))
 (gd (decide ((0 : Int) ≤ x2.2.2.2.1))
 (Option.bind x2.1[(Int.toNat x2.2.2.2.1)]? fun y5 =>
 (Option.bind (x2.2.1 y5) fun y6 =>
 (cond y6
 (er_1 (x2.2.2.2.1, ()))
 (rec (x2.1, x2.2.1, x2.2.2.1, (IntKind.wrap IntKind.i64 (x2.2.2.2.1 + (1 : Int))), ()))))))
 (e0_0 (())))
noncomputable def F192 (a0 : List (D170)) (a1 : (D170 → Option (Bool))) : Option (Int × Unit) :=
 (iter (F192_R2
 (fun y7 =>
 (some ((-(1 : Int)), ())))
 (fun y8 =>
 (some (y8.1, ())))) fuel (a0, a1, (((List.length a0) : Nat) : Int), (0 : Int), ()))
noncomputable def C192 : Fun := ⟨[(.ro (.slice Y170)), (.fn Y170 .bool)], [((.int .i64), .z)], fun z => F192 z.1 z.2.1⟩
noncomputable def E192 : Env := ⟨19, tyTab tys, oneTab ones, fnTab [], false, [], [(2, [0, 1, 7, 8], []), (3, [0, 1, 7, 8], []), (6, [0, 1, 7, 8], []), (7, [], []), (100000, [], []), (100001, [0, 1, 7, 8], []), (99999, [4], [])], none, [], []⟩
noncomputable def L192 : List (LoopS (Int × Unit)) := [⟨2, ⟨[(0, (.pv (.slice Y170))), (1, (.fnA Y170 .bool)), (7, (.pv (.int .i64))), (8, (.pv (.int .i64)))], []⟩, fun κ => F192_R2 (fun y => κ.exit 0 (SSh.mk' ⟨[], []⟩ y)) (fun y => κ.ret (SSh.mk' ⟨[(4, (.pv (.int .i64)))], []⟩ y))⟩]
theorem L192_2 : RoundEq E192 L192 L192[0] (nthLoop (codeOf Tryz.f192) 0) := fun κ N x => by kernel_rfl
theorem C192_ok : QuietOk Tryz.prog 192 C192 := tQ E192 L192 [nthLoop (codeOf Tryz.f192) 0] Tryz.func192 ty_ok .nil (.cons L192[0] (by kernel_rfl) L192_2 .nil)
noncomputable def F149 (a0 : List (D170)) (a1 : (D170 → Option (Bool))) : Option (Bool × Unit) :=
 (Option.bind (F192 a0 a1) fun y0 =>
 (some ((decide (y0.1 ≥ (0 : Int))), ())))
noncomputable def C149 : Fun := ⟨[(.ro (.slice Y170)), (.fn Y170 .bool)], [(.bool, .z)], fun z => F149 z.1 z.2.1⟩
noncomputable def E149 : Env := ⟨9, tyTab tys, oneTab ones, fnTab [(192, C192)], false, [], [(99999, [4], [])], none, [], []⟩
noncomputable def L149 : List (LoopS (Bool × Unit)) := []
theorem C149_ok : QuietOk Tryz.prog 149 C149 := tQ E149 L149 [] Tryz.func149 ty_ok (.cons C192_ok .nil) .nil
noncomputable def F196_R2 (e0_0 : Unit → Option (Int × Unit)) (er_1 : Int × Unit → Option (Int × Unit)) (rec : List (List UInt8) × (List UInt8 → Option (Bool)) × Int × Int × Unit → Option (Int × Unit)) (x2 : List (List UInt8) × (List UInt8 → Option (Bool)) × Int × Int × Unit) : Option (Int × Unit) :=
 (cond (decide (x2.2.2.2.1 < x2.2.2.1))
 (gd (decide ((0 : Int) ≤ x2.2.2.2.1))
 (Option.bind x2.1[(Int.toNat x2.2.2.2.1)]? fun y5 =>
 (Option.bind (x2.2.1 y5) fun y6 =>
 (cond y6
 (er_1 (x2.2.2.2.1, ()))
 (rec (x2.1, x2.2.1, x2.2.2.1, (IntKind.wrap IntKind.i64 (x2.2.2.2.1 + (1 : Int))), ()))))))
 (e0_0 (())))
noncomputable def F196 (a0 : List (List UInt8)) (a1 : (List UInt8 → Option (Bool))) : Option (Int × Unit) :=
 (iter (F196_R2
 (fun y7 =>
 (some ((-(1 : Int)), ())))
 (fun y8 =>
 (some (y8.1, ())))) fuel (a0, a1, (((List.length a0) : Nat) : Int), (0 : Int), ()))
noncomputable def C196 : Fun := ⟨[(.ro (.slice .str)), (.fn .str .bool)], [((.int .i64), .z)], fun z => F196 z.1 z.2.1⟩
noncomputable def E196 : Env := ⟨19, tyTab tys, oneTab ones, fnTab [], false, [], [(2, [0, 1, 7, 8], []), (3, [0, 1, 7, 8], []), (6, [0, 1, 7, 8], []), (7, [], []), (100000, [], []), (100001, [0, 1, 7, 8], []), (99999, [4], [])], none, [], []⟩
noncomputable def L196 : List (LoopS (Int × Unit)) := [⟨2, ⟨[(0, (.pv (.slice .str))), (1, (.fnA .str .bool)), (7, (.pv (.int .i64))), (8, (.pv (.int .i64)))], []⟩, fun κ => F196_R2 (fun y => κ.exit 0 (SSh.mk' ⟨[], []⟩ y)) (fun y => κ.ret (SSh.mk' ⟨[(4, (.pv (.int .i64)))], []⟩ y))⟩]
theorem L196_2 : RoundEq E196 L196 L196[0] (nthLoop (codeOf Tryz.f196) 0) := fun κ N x => by kernel_rfl
theorem C196_ok : QuietOk Tryz.prog 196 C196 := tQ E196 L196 [nthLoop (codeOf Tryz.f196) 0] Tryz.func196 ty_ok .nil (.cons L196[0] (by kernel_rfl) L196_2 .nil)
end Go.V
