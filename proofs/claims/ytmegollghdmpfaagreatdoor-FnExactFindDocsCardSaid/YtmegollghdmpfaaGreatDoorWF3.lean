/- What functions of the program compute, printed by a program of ours. No condition. -/
import Derived.Test.YtmegollghdmpfaaGreatDoorWF2
namespace Go.V
open Go.Proofs
noncomputable section
set_option maxRecDepth 100000
set_option linter.unusedVariables false
def F131 (a0 : Int) (a1 : Int) : Option (Int × Unit) :=
 (Option.bind (F171 a0) fun y0 =>
 (Option.bind (F171 a1) fun y1 =>
 (cond y0.1
 (cond y1.1
 (some ((0 : Int), ()))
 (some ((-(1 : Int)), ())))
 (cond y1.1
 (some ((1 : Int), ()))
 (cond (decide (a0 < a1))
 (some ((-(1 : Int)), ()))
 (cond (decide (a0 > a1))
 (some ((1 : Int), ()))
 (some ((0 : Int), ()))))))))
def C131 : Fun := ⟨[(.ro (.int .i64)), (.ro (.int .i64))], [((.int .i64), .z)], fun z => F131 z.1 z.2.1⟩
def E131 : Env := ⟨20, tyTab tys, oneTab ones, fnTab [(171, C171)], false, [], [(6, [], []), (7, [0, 1, 6], []), (9, [0, 1], []), (11, [0, 1], []), (13, [], []), (99999, [4], [])], none, [], []⟩
def L131 : List (LoopS (Int × Unit)) := []
theorem C131_ok : QuietOk Tryz.prog 131 C131 := tQ E131 L131 [] Tryz.func131 ty_ok (.cons C171_ok .nil) .nil
abbrev G96 : Type := (D52) → (D52) → Option (Int × Unit)
def H96 (g : G96) : Fun := ⟨[(.ro Y52), (.ro Y52)], [((.int .i64), .z)], fun z => g z.1 z.2.1⟩
def B133_R2 (g : G96) (e0_0 : List (D52) × List (D52) × Unit → Option (Int × Unit)) (er_1 : Int × Unit → Option (Int × Unit)) (rec : List (D52) × List (D52) × List (D52) × Int × Int × Unit → Option (Int × Unit)) (x2 : List (D52) × List (D52) × List (D52) × Int × Int × Unit) : Option (Int × Unit) :=
 (cond (decide (x2.2.2.2.2.1 < x2.2.2.2.1))
 (gd (decide ((0 : Int) ≤ x2.2.2.2.2.1))
 (Option.bind x2.2.2.1[(Int.toNat x2.2.2.2.2.1)]? fun y5 =>
 (cond (decide (x2.2.2.2.2.1 ≥ (((List.length x2.2.1) : Nat) : Int)))
 (er_1 ((1 : Int), ()))
 (gd (decide ((0 : Int) ≤ x2.2.2.2.2.1))
 (Option.bind x2.2.1[(Int.toNat x2.2.2.2.2.1)]? fun y7 =>
 (Option.bind (g y5 y7) fun y8 =>
 (cond (y8.1 != (0 : Int))
 (er_1 (y8.1, ()))
 (rec (x2.1, x2.2.1, x2.2.2.1, x2.2.2.2.1, (IntKind.wrap IntKind.i64 (x2.2.2.2.2.1 + (1 : Int))), ())))))))))
 (e0_0 (x2.1, x2.2.1, ())))
def B133 (g : G96) (a0 : List (D52)) (a1 : List (D52)) (a2 : (Unit)) : Option (Int × Unit) :=
 (iter (B133_R2 g
 (fun y9 =>
 (cond (decide ((((List.length y9.1) : Nat) : Int) < (((List.length y9.2.1) : Nat) : Int)))
 (some ((-(1 : Int)), ()))
 (some ((0 : Int), ()))))
 (fun y10 =>
 (some (y10.1, ())))) fuel (a0, a1, a0, (((List.length a0) : Nat) : Int), (0 : Int), ()))
def K133 (g : G96) : Fun := ⟨[(.ro (.slice Y52)), (.ro (.slice Y52)), (.st 96 [])], [((.int .i64), .z)], fun z => B133 g z.1 z.2.1 z.2.2.1⟩
def E133 (g : G96) : Env := ⟨39, tyTab tys, oneTab ones, fnTab [(96, (H96 g))], false, [], [(2, [0, 1, 2, 11, 12, 13], []), (3, [0, 1, 2, 11, 12, 13], []), (6, [0, 1, 2, 7, 8, 11, 12, 13], []), (10, [0, 1, 2, 11, 12, 13], []), (11, [0, 1], []), (13, [], []), (100000, [0, 1], []), (100001, [0, 1, 2, 11, 12, 13], []), (99999, [6], [])], none, [], []⟩
def L133 (g : G96) : List (LoopS (Int × Unit)) := [⟨2, ⟨[(0, (.pv (.slice Y52))), (1, (.pv (.slice Y52))), (2, (.clo 96 [])), (11, (.pv (.slice Y52))), (12, (.pv (.int .i64))), (13, (.pv (.int .i64)))], []⟩, fun κ => B133_R2 g (fun y => κ.exit 0 (SSh.mk' ⟨[(0, (.pv (.slice Y52))), (1, (.pv (.slice Y52)))], []⟩ y)) (fun y => κ.ret (SSh.mk' ⟨[(6, (.pv (.int .i64)))], []⟩ y))⟩]
theorem L133_2 (g : G96) : RoundEq (E133 g) (L133 g) ((L133 g)[0]'(Nat.le_of_ble_eq_true rfl)) (nthLoop (codeOf Tryz.f133) 0) := fun κ N x => by kernel_rfl
theorem K133_ok (g : G96) (hg : QuietOk Tryz.prog 96 (H96 g)) : QuietOk Tryz.prog 133 (K133 g) := tQ (E133 g) (L133 g) [nthLoop (codeOf Tryz.f133) 0] Tryz.func133 ty_ok (.cons hg .nil) (.cons ((L133 g)[0]'(Nat.le_of_ble_eq_true rfl)) (by kernel_rfl) (L133_2 g) .nil)
def B135 (g : G96) (a0 : D112) (a1 : D112) : Option (Int × Unit) :=
 (Option.bind (F136 a0.1 a1.1) fun y0 =>
 (Option.bind (g a0.2.1 a1.2.1) fun y1 =>
 (Option.bind (F130 [y0.1, y1.1]) fun y2 =>
 (some (y2.1, ())))))
def K135 (g : G96) : Fun := ⟨[(.ro Y112), (.ro Y112)], [((.int .i64), .z)], fun z => B135 g z.1 z.2.1⟩
def E135 (g : G96) : Env := ⟨17, tyTab tys, oneTab ones, fnTab [(96, (H96 g)), (130, C130), (136, C136)], false, [120], [(99999, [4], [])], none, [], []⟩
def L135 (g : G96) : List (LoopS (Int × Unit)) := []
theorem K135_ok (g : G96) (hg : QuietOk Tryz.prog 96 (H96 g)) : QuietOk Tryz.prog 135 (K135 g) := tQ (E135 g) (L135 g) [] Tryz.func135 ty_ok (.cons hg (.cons C130_ok (.cons C136_ok .nil))) .nil
def B134_R2 (g : G96) (e0_0 : List (D112) × List (D112) × Unit → Option (Int × Unit)) (er_1 : Int × Unit → Option (Int × Unit)) (rec : List (D112) × List (D112) × List (D112) × Int × Int × Unit → Option (Int × Unit)) (x2 : List (D112) × List (D112) × List (D112) × Int × Int × Unit) : Option (Int × Unit) :=
 (cond (decide (x2.2.2.2.2.1 < x2.2.2.2.1))
 (gd (decide ((0 : Int) ≤ x2.2.2.2.2.1))
 (Option.bind x2.2.2.1[(Int.toNat x2.2.2.2.2.1)]? fun y5 =>
 (cond (decide (x2.2.2.2.2.1 ≥ (((List.length x2.2.1) : Nat) : Int)))
 (er_1 ((1 : Int), ()))
 (gd (decide ((0 : Int) ≤ x2.2.2.2.2.1))
 (Option.bind x2.2.1[(Int.toNat x2.2.2.2.2.1)]? fun y7 =>
 (Option.bind (B135 g y5 y7) fun y8 =>
 (cond (y8.1 != (0 : Int))
 (er_1 (y8.1, ()))
 (rec (x2.1, x2.2.1, x2.2.2.1, x2.2.2.2.1, (IntKind.wrap IntKind.i64 (x2.2.2.2.2.1 + (1 : Int))), ())))))))))
 (e0_0 (x2.1, x2.2.1, ())))
def B134 (g : G96) (a0 : List (D112)) (a1 : List (D112)) (a2 : (Unit)) : Option (Int × Unit) :=
 (iter (B134_R2 g
 (fun y9 =>
 (cond (decide ((((List.length y9.1) : Nat) : Int) < (((List.length y9.2.1) : Nat) : Int)))
 (some ((-(1 : Int)), ()))
 (some ((0 : Int), ()))))
 (fun y10 =>
 (some (y10.1, ())))) fuel (a0, a1, a0, (((List.length a0) : Nat) : Int), (0 : Int), ()))
def K134 (g : G96) : Fun := ⟨[(.ro (.slice Y112)), (.ro (.slice Y112)), (.st 135 [])], [((.int .i64), .z)], fun z => B134 g z.1 z.2.1 z.2.2.1⟩
def E134 (g : G96) : Env := ⟨39, tyTab tys, oneTab ones, fnTab [(135, (K135 g))], false, [], [(2, [0, 1, 2, 11, 12, 13], []), (3, [0, 1, 2, 11, 12, 13], []), (6, [0, 1, 2, 7, 8, 11, 12, 13], []), (10, [0, 1, 2, 11, 12, 13], []), (11, [0, 1], []), (13, [], []), (100000, [0, 1], []), (100001, [0, 1, 2, 11, 12, 13], []), (99999, [6], [])], none, [], []⟩
def L134 (g : G96) : List (LoopS (Int × Unit)) := [⟨2, ⟨[(0, (.pv (.slice Y112))), (1, (.pv (.slice Y112))), (2, (.clo 135 [])), (11, (.pv (.slice Y112))), (12, (.pv (.int .i64))), (13, (.pv (.int .i64)))], []⟩, fun κ => B134_R2 g (fun y => κ.exit 0 (SSh.mk' ⟨[(0, (.pv (.slice Y112))), (1, (.pv (.slice Y112)))], []⟩ y)) (fun y => κ.ret (SSh.mk' ⟨[(6, (.pv (.int .i64)))], []⟩ y))⟩]
theorem L134_2 (g : G96) : RoundEq (E134 g) (L134 g) ((L134 g)[0]'(Nat.le_of_ble_eq_true rfl)) (nthLoop (codeOf Tryz.f134) 0) := fun κ N x => by kernel_rfl
theorem K134_ok (g : G96) (hg : QuietOk Tryz.prog 96 (H96 g)) : QuietOk Tryz.prog 134 (K134 g) := tQ (E134 g) (L134 g) [nthLoop (codeOf Tryz.f134) 0] Tryz.func134 ty_ok (.cons (K135_ok g hg) .nil) (.cons ((L134 g)[0]'(Nat.le_of_ble_eq_true rfl)) (by kernel_rfl) (L134_2 g) .nil)
def B96 (g : G96) (a0 : D52) (a1 : D52) : Option (Int × Unit) :=
 (Option.bind (F131 a0.1 a1.1) fun y1 =>
 (Option.bind (F131 a0.2.1 a1.2.1) fun y2 =>
 (Option.bind (F130 [y1.1, y2.1]) fun y3 =>
 (cond (y3.1 != (0 : Int))
 (some (y3.1, ()))
 (cond (a0.1 == (4 : Int))
 (Option.bind (F132 a0) fun y5 =>
 (Option.bind (F132 a1) fun y6 =>
 (Option.bind (B133 g y5.1 y6.1 ()) fun y7 =>
 (some (y7.1, ())))))
 (cond (a0.1 == (5 : Int))
 (Option.bind (F99 a0) fun y8 =>
 (Option.bind (F99 a1) fun y9 =>
 (Option.bind (B134 g y8.1 y9.1 ()) fun y10 =>
 (some (y10.1, ())))))
 (Option.bind (F136 a0.2.2.1 a1.2.2.1) fun y11 =>
 (some (y11.1, ())))))))))
def K96 (g : G96) : Fun := ⟨[(.ro Y52), (.ro Y52)], [((.int .i64), .z)], fun z => B96 g z.1 z.2.1⟩
def E96 (g : G96) : Env := ⟨66, tyTab tys, oneTab ones, fnTab [(96, (H96 g)), (99, C99), (130, C130), (131, C131), (132, C132), (133, (K133 g)), (134, (K134 g)), (135, (K135 g)), (136, C136)], false, [192], [(4, [2, 3], []), (13, [2, 3], []), (100000, [2, 3], []), (99999, [4], [])], none, [], []⟩
def L96 (g : G96) : List (LoopS (Int × Unit)) := []
theorem K96_ok (g : G96) (hg : QuietOk Tryz.prog 96 (H96 g)) : QuietOk Tryz.prog 96 (K96 g) := tQ (E96 g) (L96 g) [] Tryz.func96 ty_ok (.cons hg (.consFr C99_ok (.cons C130_ok (.cons C131_ok (.cons C132_ok (.cons (K133_ok g hg) (.cons (K134_ok g hg) (.cons (K135_ok g hg) (.cons C136_ok .nil))))))))) .nil
def S96 : Nat → G96
  | 0 => fun _ _ => none
  | k + 1 => B96 (S96 k)
def F96 : G96 := S96 fuel
def C96 : Fun := H96 F96
theorem C96_all : ∀ k, QuietOk Tryz.prog 96 (H96 (S96 k))
  | 0 => QuietOk.none Tryz.func96 (by rfl) (by decide) fun _ => rfl
  | k + 1 => K96_ok (S96 k) (C96_all k)
theorem C96_ok : QuietOk Tryz.prog 96 C96 := C96_all fuel
def F182_R2 (e0_0 : Unit → Option (Int × Unit)) (er_1 : Int × Unit → Option (Int × Unit)) (rec : List (D52) × Int × Int × D52 × Unit → Option (Int × Unit)) (x2 : List (D52) × Int × Int × D52 × Unit) : Option (Int × Unit) :=
 (cond (decide (x2.2.2.1 < x2.2.1))
 (gd (decide ((0 : Int) ≤ x2.2.2.1))
 (Option.bind x2.1[(Int.toNat x2.2.2.1)]? fun y5 =>
 (cond ((decide (x2.2.2.2.1.1 = y5.1)) && ((decide (x2.2.2.2.1.2.1 = y5.2.1)) && ((x2.2.2.2.1.2.2.1 == y5.2.2.1) && true)))
 (er_1 (x2.2.2.1, ()))
 (rec (x2.1, x2.2.1, (IntKind.wrap IntKind.i64 (x2.2.2.1 + (1 : Int))), x2.2.2.2.1, ())))))
 (e0_0 (())))
def F182 (a0 : List (D52)) (a1 : D52) : Option (Int × Unit) :=
 (iter (F182_R2
 (fun y6 =>
 (some ((-(1 : Int)), ())))
 (fun y7 =>
 (some (y7.1, ())))) fuel (a0, (((List.length a0) : Nat) : Int), (0 : Int), a1, ()))
def C182 : Fun := ⟨[(.ro (.slice Y52)), (.ro Y52)], [((.int .i64), .z)], fun z => F182 z.1 z.2.1⟩
def E182 : Env := ⟨19, tyTab tys, oneTab ones, fnTab [], false, [], [(2, [0, 3, 7, 8], []), (3, [0, 3, 7, 8], []), (6, [0, 3, 7, 8], []), (7, [], []), (100000, [], []), (100001, [0, 3, 7, 8], []), (99999, [4], [])], none, [], []⟩
def L182 : List (LoopS (Int × Unit)) := [⟨2, ⟨[(0, (.pv (.slice Y52))), (3, (.ptr 24 [])), (7, (.pv (.int .i64))), (8, (.pv (.int .i64)))], [(24, (.data true Y52 .z))]⟩, fun κ => F182_R2 (fun y => κ.exit 0 (SSh.mk' ⟨[], []⟩ y)) (fun y => κ.ret (SSh.mk' ⟨[(4, (.pv (.int .i64)))], []⟩ y))⟩]
theorem L182_2 : RoundEq E182 L182 L182[0] (nthLoop (codeOf Tryz.f182) 0) := fun κ N x => by kernel_rfl
theorem C182_ok : QuietOk Tryz.prog 182 C182 := tQ E182 L182 [nthLoop (codeOf Tryz.f182) 0] Tryz.func182 ty_ok .nil (.cons L182[0] (by kernel_rfl) L182_2 .nil)
def F160 (a0 : List (D52)) (a1 : D52) : Option (Bool × Unit) :=
 (Option.bind (F182 a0 a1) fun y0 =>
 (some ((decide (y0.1 ≥ (0 : Int))), ())))
def C160 : Fun := ⟨[(.ro (.slice Y52)), (.ro Y52)], [(.bool, .z)], fun z => F160 z.1 z.2.1⟩
def E160 : Env := ⟨9, tyTab tys, oneTab ones, fnTab [(182, C182)], false, [], [(99999, [4], [])], none, [], []⟩
def L160 : List (LoopS (Bool × Unit)) := []
theorem C160_ok : QuietOk Tryz.prog 160 C160 := tQ E160 L160 [] Tryz.func160 ty_ok (.cons C182_ok .nil) .nil
def F127 (a0 : D102) (a1 : D52) : Option (Bool × Unit) :=
 (Option.bind (F96 a1 a0.2.2.1) fun y0 =>
 (let j7 : D102 × D52 × Unit → Option (Bool × Unit) := fun (y8 : D102 × D52 × Unit) =>
 (Option.bind (F132 y8.2.1) fun y9 =>
 (cond (y8.2.1.1 == (4 : Int))
 (some (((((List.length y9.1) : Nat) : Int) == y8.1.2.2.1.2.1), ()))
 (some (false, ()))))
 (cond (a0.1 == (1 : Int))
 (cond (a0.1 == (1 : Int))
 (some ((y0.1 == (0 : Int)), ()))
 (cond (a0.1 == (3 : Int))
 (cond (a1.1 == a0.2.2.1.1)
 (some ((decide (y0.1 < (0 : Int))), ()))
 (some (false, ())))
 (cond (a0.1 == (4 : Int))
 (cond (a1.1 == a0.2.2.1.1)
 (some ((decide (y0.1 ≤ (0 : Int))), ()))
 (some (false, ())))
 (cond (a0.1 == (5 : Int))
 (cond (a1.1 == a0.2.2.1.1)
 (some ((decide (y0.1 > (0 : Int))), ()))
 (some (false, ())))
 (cond (a0.1 == (6 : Int))
 (cond (a1.1 == a0.2.2.1.1)
 (some ((decide (y0.1 ≥ (0 : Int))), ()))
 (some (false, ())))
 (cond (a0.1 == (7 : Int))
 (Option.bind (F132 a0.2.2.1) fun y3 =>
 (Option.bind (F160 y3.1 a1) fun y4 =>
 (some (y4.1, ()))))
 (cond (a0.1 == (9 : Int))
 (some ((a1.1 == a0.2.2.1.2.1), ()))
 (j7 (a0, a1, ())))))))))
 (cond (a0.1 == (2 : Int))
 (some ((y0.1 == (0 : Int)), ()))
 (cond (a0.1 == (3 : Int))
 (cond (a1.1 == a0.2.2.1.1)
 (some ((decide (y0.1 < (0 : Int))), ()))
 (some (false, ())))
 (cond (a0.1 == (4 : Int))
 (cond (a1.1 == a0.2.2.1.1)
 (some ((decide (y0.1 ≤ (0 : Int))), ()))
 (some (false, ())))
 (cond (a0.1 == (5 : Int))
 (cond (a1.1 == a0.2.2.1.1)
 (some ((decide (y0.1 > (0 : Int))), ()))
 (some (false, ())))
 (cond (a0.1 == (6 : Int))
 (cond (a1.1 == a0.2.2.1.1)
 (some ((decide (y0.1 ≥ (0 : Int))), ()))
 (some (false, ())))
 (cond (a0.1 == (7 : Int))
 (Option.bind (F132 a0.2.2.1) fun y5 =>
 (Option.bind (F160 y5.1 a1) fun y6 =>
 (some (y6.1, ()))))
 (cond (a0.1 == (9 : Int))
 (some ((a1.1 == a0.2.2.1.2.1), ()))
 (j7 (a0, a1, ()))))))))))))
def C127 : Fun := ⟨[(.ro Y102), (.ro Y52)], [(.bool, .z)], fun z => F127 z.1 z.2.1⟩
def E127 : Env := ⟨91, tyTab tys, oneTab ones, fnTab [(96, C96), (132, C132), (160, C160)], false, [], [(20, [2, 3], []), (100000, [2, 3], []), (99999, [4], [])], none, [], []⟩
def L127 : List (LoopS (Bool × Unit)) := []
theorem C127_ok : QuietOk Tryz.prog 127 C127 := tQ E127 L127 [] Tryz.func127 ty_ok (.cons C96_ok (.cons C132_ok (.cons C160_ok .nil))) .nil
def F93 (a0 : D102) (a1 : D52) : Option (Bool × Unit) :=
 (Option.bind (F125 a1 a0.2.1) fun y0 =>
 (cond (a0.1 == (8 : Int))
 (some (((decide ((((List.length y0.1) : Nat) : Int) > (0 : Int))) == (a0.2.2.1.2.1 == (1 : Int))), ()))
 (let j3 : D102 × List (D52) × Unit → Option (Bool × Unit) := fun (y4 : D102 × List (D52) × Unit) =>
 (Option.bind (F126 y4.2.1 (fun (v7 : D52) => (Option.map (fun (v8 : (Bool × Unit)) => v8.1) (F127 y4.1 v7)))) fun y5 =>
 (some ((!(y5.1 == (y4.1.1 == (2 : Int)))), ())))
 (cond ((((List.length y0.1) : Nat) : Int) == (0 : Int))
 (cond (a0.1 != (9 : Int))
 (gd (decide (((List.length y0.1) + (List.length ([((0 : Int), ((0 : Int), ([], ())))] : List D52))) ≤ lim))
 (j3 (a0, (y0.1 ++ [((0 : Int), ((0 : Int), ([], ())))]), ())))
 (j3 (a0, y0.1, ())))
 (j3 (a0, y0.1, ()))))))
def C93 : Fun := ⟨[(.ro Y102), (.ro Y52)], [(.bool, .z)], fun z => F93 z.1 z.2.1⟩
def E93 : Env := ⟨41, tyTab tys, oneTab ones, fnTab [(125, C125), (126, C126), (127, C127)], false, [], [(4, [2, 5], []), (6, [2, 5], []), (99999, [4], [])], none, [], []⟩
def L93 : List (LoopS (Bool × Unit)) := []
theorem C93_ok : QuietOk Tryz.prog 93 C93 := tQ E93 L93 [] Tryz.func93 ty_ok (.consFr C125_ok (.cons C126_ok (.cons C127_ok .nil))) .nil
def F92 (a0 : D102) (a1 : D52) : Option (Bool × Unit) :=
 (Option.bind (F93 a0 a1) fun y0 =>
 (some ((!y0.1), ())))
def C92 : Fun := ⟨[(.ro Y102), (.rp Y52)], [(.bool, .z)], fun z => F92 z.1 z.2.1⟩
def E92 : Env := ⟨8, tyTab tys, oneTab ones, fnTab [(93, C93)], false, [], [(99999, [3], [])], none, [], []⟩
def L92 : List (LoopS (Bool × Unit)) := []
theorem C92_ok : QuietOk Tryz.prog 92 C92 := tQ E92 L92 [] Tryz.func92 ty_ok (.cons C93_ok .nil) .nil
def F91 (a0 : D96) (a1 : D52) : Option (Bool × Unit) :=
 (Option.bind (F79 a0.1 (fun (v3 : D102) => (Option.map (fun (v4 : (Bool × Unit)) => v4.1) (F92 v3 a1)))) fun y0 =>
 (some ((!y0.1), ())))
def C91 : Fun := ⟨[(.ro Y96), (.rp Y52)], [(.bool, .z)], fun z => F91 z.1 z.2.1⟩
def E91 : Env := ⟨9, tyTab tys, oneTab ones, fnTab [(79, C79), (92, C92)], false, [], [(99999, [3], [])], none, [], []⟩
def L91 : List (LoopS (Bool × Unit)) := []
theorem C91_ok : QuietOk Tryz.prog 91 C91 := tQ E91 L91 [] Tryz.func91 ty_ok (.cons C79_ok (.cons C92_ok .nil)) .nil
def F60 (a0 : D23) (a1 : D52) : Option (Bool × Unit) :=
 (Option.bind (F77 a0.1 (fun (v3 : D96) => (Option.map (fun (v4 : (Bool × Unit)) => v4.1) (F91 v3 a1)))) fun y0 =>
 (some (y0.1, ())))
def C60 : Fun := ⟨[(.ro Y23), (.ro Y52)], [(.bool, .z)], fun z => F60 z.1 z.2.1⟩
def E60 : Env := ⟨9, tyTab tys, oneTab ones, fnTab [(77, C77), (91, C91)], false, [], [(99999, [4], [])], none, [], []⟩
def L60 : List (LoopS (Bool × Unit)) := []
theorem C60_ok : QuietOk Tryz.prog 60 C60 := tQ E60 L60 [] Tryz.func60 ty_ok (.cons C77_ok (.cons C91_ok .nil)) .nil
def F59 (a0 : D52) (a1 : D27) : Option (Bool × Unit) :=
 (Option.bind (F60 a1.1 a0) fun y0 =>
 (some ((!y0.1), ())))
def C59 : Fun := ⟨[(.ro Y52), (.rp Y27)], [(.bool, .z)], fun z => F59 z.1 z.2.1⟩
def E59 : Env := ⟨9, tyTab tys, oneTab ones, fnTab [(60, C60)], false, [], [(99999, [3], [])], none, [], []⟩
def L59 : List (LoopS (Bool × Unit)) := []
theorem C59_ok : QuietOk Tryz.prog 59 C59 := tQ E59 L59 [] Tryz.func59 ty_ok (.cons C60_ok .nil) .nil
def F137_R5 (e0_0 : D52 × D52 × Unit → Option (D52 × Unit)) (rec : List (D52) × Int × D52 × D52 × Unit → Option (D52 × Unit)) (x4 : List (D52) × Int × D52 × D52 × Unit) : Option (D52 × Unit) :=
 (cond (decide (x4.2.1 < (((List.length x4.1) : Nat) : Int)))
 (let j10 : List (D52) × Int × D52 × D52 × Unit → Option (D52 × Unit) := fun (y11 : List (D52) × Int × D52 × D52 × Unit) =>
 (rec (y11.1, (IntKind.wrap IntKind.i64 (y11.2.1 + (1 : Int))), y11.2.2.1, y11.2.2.2.1, ()))
 (gd (decide ((0 : Int) ≤ x4.2.1))
 (Option.bind x4.1[(Int.toNat x4.2.1)]? fun y7 =>
 (Option.bind (F96 y7 x4.2.2.2.1) fun y8 =>
 (cond (decide (y8.1 < (0 : Int)))
 (gd (decide ((0 : Int) ≤ x4.2.1))
 (Option.bind x4.1[(Int.toNat x4.2.1)]? fun y9 =>
 (j10 (x4.1, x4.2.1, x4.2.2.1, y9, ()))))
 (j10 (x4.1, x4.2.1, x4.2.2.1, x4.2.2.2.1, ())))))))
 (e0_0 (x4.2.2.1, x4.2.2.2.1, ())))
def F137 (a0 : List (D52)) (a1 : (Unit)) : Option (D52 × Unit) :=
 (cond (decide ((((List.length a0) : Nat) : Int) < (1 : Int)))
 none
 (Option.bind a0[(Int.toNat (0 : Int))]? fun y1 =>
 (iter (F137_R5
 (fun y12 =>
 (some (y12.2.1, ())))) fuel (a0, (1 : Int), ((0 : Int), ((0 : Int), ([], ()))), y1, ()))))
def C137 : Fun := ⟨[(.ro (.slice Y52)), (.st 96 [])], [(Y52, .z)], fun z => F137 z.1 z.2.1⟩
def E137 : Env := ⟨33, tyTab tys, oneTab ones, fnTab [(96, C96)], false, [], [(3, [0, 1, 4], []), (5, [0, 1, 4, 5, 6], []), (6, [0, 1, 4, 5, 6], []), (7, [0, 1, 4, 5, 6], []), (9, [4, 5], []), (100000, [4, 5], []), (100001, [0, 1, 4, 5, 6], []), (99999, [4], [])], none, [], []⟩
def L137 : List (LoopS (D52 × Unit)) := [⟨5, ⟨[(0, (.pv (.slice Y52))), (1, (.clo 96 [])), (4, (.ptr 32 [])), (5, (.ptr 40 [])), (6, (.pv (.int .i64)))], [(32, (.data true Y52 .z)), (40, (.data true Y52 .z))]⟩, fun κ => F137_R5 (fun y => κ.exit 0 (SSh.mk' ⟨[(4, (.ptr 32 [])), (5, (.ptr 40 []))], [(32, (.data true Y52 .z)), (40, (.data true Y52 .z))]⟩ y))⟩]
theorem L137_5 : RoundEq E137 L137 L137[0] (nthLoop (codeOf Tryz.f137) 0) := fun κ N x => by kernel_rfl
theorem C137_ok : QuietOk Tryz.prog 137 C137 := tQ E137 L137 [nthLoop (codeOf Tryz.f137) 0] Tryz.func137 ty_ok (.cons C96_ok .nil) (.cons L137[0] (by kernel_rfl) L137_5 .nil)
def F97 (a0 : D52) (a1 : List UInt8) : Option (D52 × Unit) :=
 (Option.bind (F125 a0 a1) fun y0 =>
 (cond ((((List.length y0.1) : Nat) : Int) == (0 : Int))
 (some (((0 : Int), ((0 : Int), ([], ()))), ()))
 (Option.bind (F137 y0.1 ()) fun y2 =>
 (some (y2.1, ())))))
def C97 : Fun := ⟨[(.ro Y52), (.ro .str)], [(Y52, .z)], fun z => F97 z.1 z.2.1⟩
def E97 : Env := ⟨15, tyTab tys, oneTab ones, fnTab [(96, C96), (125, C125), (137, C137)], false, [], [(4, [4, 5], []), (99999, [4], [])], none, [], []⟩
def L97 : List (LoopS (D52 × Unit)) := []
theorem C97_ok : QuietOk Tryz.prog 97 C97 := tQ E97 L97 [] Tryz.func97 ty_ok (.cons C96_ok (.consFr C125_ok (.cons C137_ok .nil))) .nil
def F98 (a0 : D52) (a1 : D52) : Option (Int × Unit) :=
 (Option.bind (F56 a0) fun y0 =>
 (Option.bind (F56 a1) fun y1 =>
 (Option.bind (F131 y0.1 y1.1) fun y2 =>
 (some (y2.1, ())))))
def C98 : Fun := ⟨[(.ro Y52), (.ro Y52)], [((.int .i64), .z)], fun z => F98 z.1 z.2.1⟩
def E98 : Env := ⟨22, tyTab tys, oneTab ones, fnTab [(56, C56), (131, C131)], false, [], [(99999, [4], [])], none, [], []⟩
def L98 : List (LoopS (Int × Unit)) := []
theorem C98_ok : QuietOk Tryz.prog 98 C98 := tQ E98 L98 [] Tryz.func98 ty_ok (.cons C56_ok (.cons C131_ok .nil)) .nil
def F95_R2 (e0_0 : D52 × D52 × Unit → Option (Int × Unit)) (er_1 : Int × Unit → Option (Int × Unit)) (rec : List (D72) × Int × Int × D52 × D52 × Unit → Option (Int × Unit)) (x2 : List (D72) × Int × Int × D52 × D52 × Unit) : Option (Int × Unit) :=
 (cond (decide (x2.2.2.1 < x2.2.1))
 (gd (decide ((0 : Int) ≤ x2.2.2.1))
 (Option.bind x2.1[(Int.toNat x2.2.2.1)]? fun y5 =>
 (Option.bind (F97 x2.2.2.2.1 y5.1) fun y6 =>
 (Option.bind (F97 x2.2.2.2.2.1 y5.1) fun y7 =>
 (Option.bind (F96 y6.1 y7.1) fun y8 =>
 (let j10 : Int × List (D72) × Int × Int × D52 × D52 × Unit → Option (Int × Unit) := fun (y11 : Int × List (D72) × Int × Int × D52 × D52 × Unit) =>
 (cond (y11.1 != (0 : Int))
 (er_1 (y11.1, ()))
 (rec (y11.2.1, y11.2.2.1, (IntKind.wrap IntKind.i64 (y11.2.2.2.1 + (1 : Int))), y11.2.2.2.2.1, y11.2.2.2.2.2.1, ())))
 (cond y5.2.1
 (j10 ((IntKind.wrap IntKind.i64 ((0 : Int) - y8.1)), x2.1, x2.2.1, x2.2.2.1, x2.2.2.2.1, x2.2.2.2.2.1, ()))
 (j10 (y8.1, x2.1, x2.2.1, x2.2.2.1, x2.2.2.2.1, x2.2.2.2.2.1, ())))))))))
 (e0_0 (x2.2.2.2.1, x2.2.2.2.2.1, ())))
def F95 (a0 : D52) (a1 : D52) (a2 : List (D72)) : Option (Int × Unit) :=
 (iter (F95_R2
 (fun y12 =>
 (Option.bind (F98 y12.1 y12.2.1) fun y14 =>
 (some (y14.1, ()))))
 (fun y13 =>
 (some (y13.1, ())))) fuel (a2, (((List.length a2) : Nat) : Int), (0 : Int), a0, a1, ()))
def C95 : Fun := ⟨[(.ro Y52), (.ro Y52), (.rp (.slice Y72))], [((.int .i64), .z)], fun z => F95 z.1 z.2.1 z.2.2.1⟩
def E95 : Env := ⟨35, tyTab tys, oneTab ones, fnTab [(96, C96), (97, C97), (98, C98)], false, [], [(2, [3, 4, 9, 10, 11], []), (3, [3, 4, 9, 10, 11], []), (7, [3, 4, 8, 9, 10, 11], []), (9, [3, 4, 9, 10, 11], []), (10, [3, 4], []), (100000, [3, 4], []), (100001, [3, 4, 9, 10, 11], []), (99999, [5], [])], none, [], []⟩
def L95 : List (LoopS (Int × Unit)) := [⟨2, ⟨[(3, (.ptr 24 [])), (4, (.ptr 32 [])), (9, (.pv (.slice Y72))), (10, (.pv (.int .i64))), (11, (.pv (.int .i64)))], [(24, (.data true Y52 .z)), (32, (.data true Y52 .z))]⟩, fun κ => F95_R2 (fun y => κ.exit 0 (SSh.mk' ⟨[(3, (.ptr 24 [])), (4, (.ptr 32 []))], [(24, (.data true Y52 .z)), (32, (.data true Y52 .z))]⟩ y)) (fun y => κ.ret (SSh.mk' ⟨[(5, (.pv (.int .i64)))], []⟩ y))⟩]
theorem L95_2 : RoundEq E95 L95 L95[0] (nthLoop (codeOf Tryz.f95) 0) := fun κ N x => by kernel_rfl
theorem C95_ok : QuietOk Tryz.prog 95 C95 := tQ E95 L95 [nthLoop (codeOf Tryz.f95) 0] Tryz.func95 ty_ok (.cons C96_ok (.cons C97_ok (.cons C98_ok .nil))) (.cons L95[0] (by kernel_rfl) L95_2 .nil)
def F94 (a0 : List (D52)) (a1 : (List (D72) × Unit)) : Option (List (D52) × Unit) :=
 (Option.map (fun l => (l, ())) (sortF (fun x y => (Option.map (fun r => r.1) (F95 x y a1.1))) a0))
def C94 : Fun := ⟨[(.io (.slice Y52) (.own .z)), (.st 95 [(.slice Y72)])], [], fun ar => F94 ar.1 ar.2.1⟩
theorem C94_ok : IoOk Tryz.prog 94 C94 := sort_ok Tryz.vSort94 (e := Y52) rfl Tryz.isAgg60 Tryz.sizeOf60 Tryz.vSort94_fn (cmp_ok1 C95_ok)
def F61 (a0 : List (D52)) (a1 : List (D72)) : Option (List (D52) × Unit) :=
 (Option.bind (F58 a0) fun y0 =>
 (Option.bind (F94 y0.1 (a1, ())) fun y1 =>
 (some (y1.1, ()))))
def C61 : Fun := ⟨[(.ro (.slice Y52)), (.ro (.slice Y72))], [((.slice Y52), (.own .z))], fun z => F61 z.1 z.2.1⟩
def E61 : Env := ⟨12, tyTab tys, oneTab ones, fnTab [(58, C58), (94, C94), (95, C95)], true, [], [(99999, [4], [])], none, [], []⟩
def L61 : List (LoopS (List (D52) × Unit)) := []
theorem C61_ok : FreshOk Tryz.prog 61 C61 := tF E61 L61 [] Tryz.func61 ty_ok (.consFr C58_ok (.consIo C94_ok (.cons C95_ok .nil))) .nil
def F175_R3 (e0_0 : List (Int) × Unit → Option (List (Int) × Unit)) (rec : Int × Int × List (Int) × Unit → Option (List (Int) × Unit)) (x2 : Int × Int × List (Int) × Unit) : Option (List (Int) × Unit) :=
 (cond (decide (x2.2.1 < (8 : Int)))
 (cond (decide ((IntKind.wrap IntKind.i64 ((56 : Int) - (IntKind.wrap IntKind.i64 ((8 : Int) * x2.2.1)))) < (0 : Int)))
 none
 (gd (decide ((0 : Int) ≤ x2.2.1))
 (gd (decide (x2.2.1 < (((List.length x2.2.2.1) : Nat) : Int)))
 (Option.bind x2.2.2.1[(Int.toNat x2.2.1)]? fun y4 =>
 (rec (x2.1, (IntKind.wrap IntKind.i64 (x2.2.1 + (1 : Int))), (List.set x2.2.2.1 (Int.toNat x2.2.1) (IntKind.wrap IntKind.u8 (Int.fdiv x2.1 ((2 : Int) ^ (Min.min (Int.toNat (IntKind.wrap IntKind.i64 ((56 : Int) - (IntKind.wrap IntKind.i64 ((8 : Int) * x2.2.1))))) (IntKind.bits IntKind.i64)))))), ()))))))
 (e0_0 (x2.2.2.1, ())))
def F175 (a0 : Int) : Option (List (Int) × Unit) :=
 (iter (F175_R3
 (fun y5 =>
 (some (y5.1, ())))) fuel (a0, (0 : Int), (List.replicate (Int.toNat (8 : Int)) (0 : Int)), ()))
def C175 : Fun := ⟨[(.ro (.int .i64))], [((.slice (.int .u8)), .z)], fun z => F175 z.1⟩
def E175 : Env := ⟨20, tyTab tys, oneTab ones, fnTab [], false, [], [(3, [0, 3, 6], []), (4, [0, 3, 6], []), (7, [3], []), (100000, [3], []), (100001, [0, 3, 6], []), (99999, [2], [])], none, [], []⟩
def L175 : List (LoopS (List (Int) × Unit)) := [⟨3, ⟨[(0, (.pv (.int .i64))), (3, (.ref (.slice (.int .u8)) 40 [])), (6, (.pv (.int .i64)))], [(40, (.data false (.slice (.int .u8)) (.own .z)))]⟩, fun κ => F175_R3 (fun y => κ.exit 0 (SSh.mk' ⟨[(3, (.ref (.slice (.int .u8)) 40 []))], [(40, (.data false (.slice (.int .u8)) (.own .z)))]⟩ y))⟩]
theorem L175_3 : RoundEq E175 L175 L175[0] (nthLoop (codeOf Tryz.f175) 0) := fun κ N x => by kernel_rfl
theorem C175_ok : QuietOk Tryz.prog 175 C175 := tQ E175 L175 [nthLoop (codeOf Tryz.f175) 0] Tryz.func175 ty_ok .nil (.cons L175[0] (by kernel_rfl) L175_3 .nil)
def F141 (a0 : List (Int)) (a1 : D52) : Option (List (Int) × Unit) :=
 (gd (decide (((List.length a0) + (List.length [(IntKind.wrap IntKind.u8 a1.1)])) ≤ lim))
 (let j3 : List (Int) × Unit → Option (List (Int) × Unit) := fun (y4 : List (Int) × Unit) =>
 (some (y4.1, ()))
 (cond (a1.1 == (1 : Int))
 (gd (decide (((List.length (a0 ++ [(IntKind.wrap IntKind.u8 a1.1)])) + (List.length [(IntKind.wrap IntKind.u8 a1.2.1)])) ≤ lim))
 (some (((a0 ++ [(IntKind.wrap IntKind.u8 a1.1)]) ++ [(IntKind.wrap IntKind.u8 a1.2.1)]), ())))
 (cond (a1.1 == (2 : Int))
 (Option.bind (F175 (IntKind.wrap IntKind.i64 (a1.2.1 + (4611686018427387904 : Int)))) fun y1 =>
 (gd (decide (((List.length (a0 ++ [(IntKind.wrap IntKind.u8 a1.1)])) + (List.length y1.1)) ≤ lim))
 (some (((a0 ++ [(IntKind.wrap IntKind.u8 a1.1)]) ++ y1.1), ()))))
 (cond (a1.1 == (3 : Int))
 (cond (a1.1 == (3 : Int))
 (gd (decide (((List.length (a0 ++ [(IntKind.wrap IntKind.u8 a1.1)])) + (List.length [(IntKind.wrap IntKind.u8 (Int.fdiv (((List.length a1.2.2.1) : Nat) : Int) ((2 : Int) ^ (Min.min (Int.toNat (8 : Int)) (IntKind.bits IntKind.i64))))), (IntKind.wrap IntKind.u8 (((List.length a1.2.2.1) : Nat) : Int))])) ≤ lim))
 (gd (decide (((List.length ((a0 ++ [(IntKind.wrap IntKind.u8 a1.1)]) ++ [(IntKind.wrap IntKind.u8 (Int.fdiv (((List.length a1.2.2.1) : Nat) : Int) ((2 : Int) ^ (Min.min (Int.toNat (8 : Int)) (IntKind.bits IntKind.i64))))), (IntKind.wrap IntKind.u8 (((List.length a1.2.2.1) : Nat) : Int))])) + (List.length (List.map (fun (v5 : UInt8) => (((UInt8.toNat v5) : Nat) : Int)) a1.2.2.1))) ≤ lim))
 (some ((((a0 ++ [(IntKind.wrap IntKind.u8 a1.1)]) ++ [(IntKind.wrap IntKind.u8 (Int.fdiv (((List.length a1.2.2.1) : Nat) : Int) ((2 : Int) ^ (Min.min (Int.toNat (8 : Int)) (IntKind.bits IntKind.i64))))), (IntKind.wrap IntKind.u8 (((List.length a1.2.2.1) : Nat) : Int))]) ++ (List.map (fun (v5 : UInt8) => (((UInt8.toNat v5) : Nat) : Int)) a1.2.2.1)), ()))))
 (j3 ((a0 ++ [(IntKind.wrap IntKind.u8 a1.1)]), ())))
 (cond (a1.1 == (4 : Int))
 (cond (a1.1 == (4 : Int))
 (gd (decide (((List.length (a0 ++ [(IntKind.wrap IntKind.u8 a1.1)])) + (List.length [(IntKind.wrap IntKind.u8 (Int.fdiv (((List.length a1.2.2.1) : Nat) : Int) ((2 : Int) ^ (Min.min (Int.toNat (8 : Int)) (IntKind.bits IntKind.i64))))), (IntKind.wrap IntKind.u8 (((List.length a1.2.2.1) : Nat) : Int))])) ≤ lim))
 (gd (decide (((List.length ((a0 ++ [(IntKind.wrap IntKind.u8 a1.1)]) ++ [(IntKind.wrap IntKind.u8 (Int.fdiv (((List.length a1.2.2.1) : Nat) : Int) ((2 : Int) ^ (Min.min (Int.toNat (8 : Int)) (IntKind.bits IntKind.i64))))), (IntKind.wrap IntKind.u8 (((List.length a1.2.2.1) : Nat) : Int))])) + (List.length (List.map (fun (v5 : UInt8) => (((UInt8.toNat v5) : Nat) : Int)) a1.2.2.1))) ≤ lim))
 (some ((((a0 ++ [(IntKind.wrap IntKind.u8 a1.1)]) ++ [(IntKind.wrap IntKind.u8 (Int.fdiv (((List.length a1.2.2.1) : Nat) : Int) ((2 : Int) ^ (Min.min (Int.toNat (8 : Int)) (IntKind.bits IntKind.i64))))), (IntKind.wrap IntKind.u8 (((List.length a1.2.2.1) : Nat) : Int))]) ++ (List.map (fun (v5 : UInt8) => (((UInt8.toNat v5) : Nat) : Int)) a1.2.2.1)), ()))))
 (j3 ((a0 ++ [(IntKind.wrap IntKind.u8 a1.1)]), ())))
 (cond (a1.1 == (5 : Int))
 (gd (decide (((List.length (a0 ++ [(IntKind.wrap IntKind.u8 a1.1)])) + (List.length [(IntKind.wrap IntKind.u8 (Int.fdiv (((List.length a1.2.2.1) : Nat) : Int) ((2 : Int) ^ (Min.min (Int.toNat (8 : Int)) (IntKind.bits IntKind.i64))))), (IntKind.wrap IntKind.u8 (((List.length a1.2.2.1) : Nat) : Int))])) ≤ lim))
 (gd (decide (((List.length ((a0 ++ [(IntKind.wrap IntKind.u8 a1.1)]) ++ [(IntKind.wrap IntKind.u8 (Int.fdiv (((List.length a1.2.2.1) : Nat) : Int) ((2 : Int) ^ (Min.min (Int.toNat (8 : Int)) (IntKind.bits IntKind.i64))))), (IntKind.wrap IntKind.u8 (((List.length a1.2.2.1) : Nat) : Int))])) + (List.length (List.map (fun (v5 : UInt8) => (((UInt8.toNat v5) : Nat) : Int)) a1.2.2.1))) ≤ lim))
 (some ((((a0 ++ [(IntKind.wrap IntKind.u8 a1.1)]) ++ [(IntKind.wrap IntKind.u8 (Int.fdiv (((List.length a1.2.2.1) : Nat) : Int) ((2 : Int) ^ (Min.min (Int.toNat (8 : Int)) (IntKind.bits IntKind.i64))))), (IntKind.wrap IntKind.u8 (((List.length a1.2.2.1) : Nat) : Int))]) ++ (List.map (fun (v5 : UInt8) => (((UInt8.toNat v5) : Nat) : Int)) a1.2.2.1)), ()))))
 (j3 ((a0 ++ [(IntKind.wrap IntKind.u8 a1.1)]), ())))))))))
def C141 : Fun := ⟨[(.tk (.slice (.int .u8)) (.own .z)), (.ro Y52)], [((.slice (.int .u8)), (.own .z))], fun z => F141 z.1 z.2.1⟩
def E141 : Env := ⟨49, tyTab tys, oneTab ones, fnTab [(175, C175)], true, [72, 152, 344], [(11, [0], []), (100000, [0], []), (99999, [4], [])], none, [], []⟩
def L141 : List (LoopS (List (Int) × Unit)) := []
theorem C141_ok : IoOk Tryz.prog 141 C141 := tT E141 L141 [] Tryz.func141 ty_ok (.cons C175_ok .nil) .nil
def F100_R3 (e0_0 : D52 × List (Int) × Unit → Option (D52 × Unit)) (rec : List (D112) × Int × Int × D52 × List (Int) × Unit → Option (D52 × Unit)) (x2 : List (D112) × Int × Int × D52 × List (Int) × Unit) : Option (D52 × Unit) :=
 (cond (decide (x2.2.2.1 < x2.2.1))
 (gd (decide ((0 : Int) ≤ x2.2.2.1))
 (Option.bind x2.1[(Int.toNat x2.2.2.1)]? fun y4 =>
 (gd (decide (((List.length x2.2.2.2.2.1) + (List.length [(IntKind.wrap IntKind.u8 (((List.length y4.1) : Nat) : Int))])) ≤ lim))
 (gd (decide (((List.length (x2.2.2.2.2.1 ++ [(IntKind.wrap IntKind.u8 (((List.length y4.1) : Nat) : Int))])) + (List.length (List.map (fun (v8 : UInt8) => (((UInt8.toNat v8) : Nat) : Int)) y4.1))) ≤ lim))
 (Option.bind (F141 ((x2.2.2.2.2.1 ++ [(IntKind.wrap IntKind.u8 (((List.length y4.1) : Nat) : Int))]) ++ (List.map (fun (v8 : UInt8) => (((UInt8.toNat v8) : Nat) : Int)) y4.1)) y4.2.1) fun y5 =>
 (rec (x2.1, x2.2.1, (IntKind.wrap IntKind.i64 (x2.2.2.1 + (1 : Int))), x2.2.2.2.1, y5.1, ())))))))
 (e0_0 (x2.2.2.2.1, x2.2.2.2.2.1, ())))
def F100 (a0 : List (D112)) : Option (D52 × Unit) :=
 (iter (F100_R3
 (fun y6 =>
 (some (((5 : Int), ((0 : Int), ((List.map (fun (v4 : Int) => (UInt8.ofNat (Int.toNat v4))) y6.2.1), ()))), ())))) fuel (a0, (((List.length a0) : Nat) : Int), (0 : Int), ((0 : Int), ((0 : Int), ([], ()))), [], ()))
def C100 : Fun := ⟨[(.ro (.slice Y112))], [(Y52, .z)], fun z => F100 z.1⟩
def E100 : Env := ⟨30, tyTab tys, oneTab ones, fnTab [(141, C141)], false, [144], [(3, [2, 3, 7, 8, 9], []), (4, [2, 3, 7, 8, 9], []), (7, [2, 3], []), (100000, [2, 3], []), (100001, [2, 3, 7, 8, 9], []), (99999, [2], [])], none, [], []⟩
def L100 : List (LoopS (D52 × Unit)) := [⟨3, ⟨[(2, (.ptr 16 [])), (3, (.ref (.slice (.int .u8)) 48 [])), (7, (.pv (.slice Y112))), (8, (.pv (.int .i64))), (9, (.pv (.int .i64)))], [(16, (.data true Y52 .z)), (48, (.data false (.slice (.int .u8)) (.own .z)))]⟩, fun κ => F100_R3 (fun y => κ.exit 0 (SSh.mk' ⟨[(2, (.ptr 16 [])), (3, (.ref (.slice (.int .u8)) 48 []))], [(16, (.data true Y52 .z)), (48, (.data false (.slice (.int .u8)) (.own .z)))]⟩ y))⟩]
theorem L100_3 : RoundEq E100 L100 L100[0] (nthLoop (codeOf Tryz.f100) 0) := fun κ N x => by kernel_rfl
theorem C100_ok : QuietOk Tryz.prog 100 C100 := tQ E100 L100 [nthLoop (codeOf Tryz.f100) 0] Tryz.func100 ty_ok (.consIo C141_ok .nil) (.cons L100[0] (by kernel_rfl) L100_3 .nil)
def F142_R2 (e0_0 : Unit → Option (Int × Unit)) (er_1 : Int × Unit → Option (Int × Unit)) (rec : List (D112) × (D112 → Option (Bool)) × Int × Int × Unit → Option (Int × Unit)) (x2 : List (D112) × (D112 → Option (Bool)) × Int × Int × Unit) : Option (Int × Unit) :=
 (cond (decide (x2.2.2.2.1 < x2.2.2.1))
 (gd (decide ((0 : Int) ≤ x2.2.2.2.1))
 (Option.bind x2.1[(Int.toNat x2.2.2.2.1)]? fun y5 =>
 (Option.bind (x2.2.1 y5) fun y6 =>
 (cond y6
 (er_1 (x2.2.2.2.1, ()))
 (rec (x2.1, x2.2.1, x2.2.2.1, (IntKind.wrap IntKind.i64 (x2.2.2.2.1 + (1 : Int))), ()))))))
 (e0_0 (())))
def F142 (a0 : List (D112)) (a1 : (D112 → Option (Bool))) : Option (Int × Unit) :=
 (iter (F142_R2
 (fun y7 =>
 (some ((-(1 : Int)), ())))
 (fun y8 =>
 (some (y8.1, ())))) fuel (a0, a1, (((List.length a0) : Nat) : Int), (0 : Int), ()))
def C142 : Fun := ⟨[(.ro (.slice Y112)), (.fn Y112 .bool)], [((.int .i64), .z)], fun z => F142 z.1 z.2.1⟩
def E142 : Env := ⟨19, tyTab tys, oneTab ones, fnTab [], false, [], [(2, [0, 1, 7, 8], []), (3, [0, 1, 7, 8], []), (6, [0, 1, 7, 8], []), (7, [], []), (100000, [], []), (100001, [0, 1, 7, 8], []), (99999, [4], [])], none, [], []⟩
def L142 : List (LoopS (Int × Unit)) := [⟨2, ⟨[(0, (.pv (.slice Y112))), (1, (.fnA Y112 .bool)), (7, (.pv (.int .i64))), (8, (.pv (.int .i64)))], []⟩, fun κ => F142_R2 (fun y => κ.exit 0 (SSh.mk' ⟨[], []⟩ y)) (fun y => κ.ret (SSh.mk' ⟨[(4, (.pv (.int .i64)))], []⟩ y))⟩]
theorem L142_2 : RoundEq E142 L142 L142[0] (nthLoop (codeOf Tryz.f142) 0) := fun κ N x => by kernel_rfl
theorem C142_ok : QuietOk Tryz.prog 142 C142 := tQ E142 L142 [nthLoop (codeOf Tryz.f142) 0] Tryz.func142 ty_ok .nil (.cons L142[0] (by kernel_rfl) L142_2 .nil)
def F101_R5 (e0_0 : Int × List (D112) × Unit → Option (List (D112) × Unit)) (rec : (D112 → Option (Bool)) × Int × Int × List (D112) × Unit → Option (List (D112) × Unit)) (x4 : (D112 → Option (Bool)) × Int × Int × List (D112) × Unit) : Option (List (D112) × Unit) :=
 (cond (decide (x4.2.2.1 < (((List.length x4.2.2.2.1) : Nat) : Int)))
 (let j10 : (D112 → Option (Bool)) × Int × Int × List (D112) × Unit → Option (List (D112) × Unit) := fun (y11 : (D112 → Option (Bool)) × Int × Int × List (D112) × Unit) =>
 (rec (y11.1, y11.2.1, (IntKind.wrap IntKind.i64 (y11.2.2.1 + (1 : Int))), y11.2.2.2.1, ()))
 (gd (decide ((0 : Int) ≤ x4.2.2.1))
 (gd (decide (x4.2.2.1 < (((List.length x4.2.2.2.1) : Nat) : Int)))
 (Option.bind x4.2.2.2.1[(Int.toNat x4.2.2.1)]? fun y7 =>
 (Option.bind (x4.1 y7) fun y8 =>
 (cond (!y8)
 (gd (decide ((0 : Int) ≤ x4.2.1))
 (gd (decide (x4.2.1 < (((List.length x4.2.2.2.1) : Nat) : Int)))
 (Option.bind x4.2.2.2.1[(Int.toNat x4.2.1)]? fun y9 =>
 (j10 (x4.1, (IntKind.wrap IntKind.i64 (x4.2.1 + (1 : Int))), x4.2.2.1, (List.set x4.2.2.2.1 (Int.toNat x4.2.1) y7), ())))))
 (j10 (x4.1, x4.2.1, x4.2.2.1, x4.2.2.2.1, ()))))))))
 (e0_0 (x4.2.1, x4.2.2.2.1, ())))
def F101 (a0 : List (D112)) (a1 : (D112 → Option (Bool))) : Option (List (D112) × Unit) :=
 (Option.bind (F142 a0 a1) fun y0 =>
 (cond (y0.1 == (-(1 : Int)))
 (some (a0, ()))
 (iter (F101_R5
 (fun y12 =>
 (gd (decide ((((List.length y12.2.1) : Nat) : Int) ≤ (((List.length y12.2.1) : Nat) : Int)))
 (gd (decide ((0 : Int) ≤ y12.1))
 (gd (decide (y12.1 ≤ (((Int.toNat (((List.length y12.2.1) : Nat) : Int)) : Nat) : Int)))
 (gd (decide ((0 : Int) ≤ y12.1))
 (gd (decide (y12.1 ≤ (((List.length (wipe Y112 y12.2.1 (Int.toNat y12.1) (Int.toNat (((List.length y12.2.1) : Nat) : Int)))) : Nat) : Int)))
 (some ((pre (Ty.slice (Ty.pair Ty.str (Ty.pair (Ty.pair (Ty.int IntKind.i64) (Ty.pair (Ty.int IntKind.i64) (Ty.pair Ty.str Ty.unit))) Ty.unit))) (wipe Y112 y12.2.1 (Int.toNat y12.1) (Int.toNat (((List.length y12.2.1) : Nat) : Int))) (Int.toNat y12.1)), ()))))))))) fuel (a1, y0.1, (IntKind.wrap IntKind.i64 (y0.1 + (1 : Int))), a0, ()))))
def C101 : Fun := ⟨[(.tk (.slice Y112) (.own .z)), (.fn Y112 .bool)], [((.slice Y112), (.own .z))], fun z => F101 z.1 z.2.1⟩
def E101 : Env := ⟨42, tyTab tys, oneTab ones, fnTab [(142, C142)], true, [], [(4, [0, 1, 5], []), (5, [0, 1, 5, 6], []), (6, [0, 1, 5, 6], []), (7, [0, 1, 5, 6], []), (11, [0, 5], []), (100000, [0, 5], []), (100001, [0, 1, 5, 6], []), (99999, [4], [])], none, [], []⟩
def L101 : List (LoopS (List (D112) × Unit)) := [⟨5, ⟨[(0, (.ref (.slice Y112) 4 [])), (1, (.fnA Y112 .bool)), (5, (.pv (.int .i64))), (6, (.pv (.int .i64)))], [(4, (.data false (.slice Y112) (.own .z)))]⟩, fun κ => F101_R5 (fun y => κ.exit 0 (SSh.mk' ⟨[(0, (.ref (.slice Y112) 4 [])), (5, (.pv (.int .i64)))], [(4, (.data false (.slice Y112) (.own .z)))]⟩ y))⟩]
theorem L101_5 : RoundEq E101 L101 L101[0] (nthLoop (codeOf Tryz.f101) 0) := fun κ N x => by kernel_rfl
theorem C101_ok : IoOk Tryz.prog 101 C101 := tT E101 L101 [nthLoop (codeOf Tryz.f101) 0] Tryz.func101 ty_ok (.cons C142_ok .nil) (.cons L101[0] (by kernel_rfl) L101_5 .nil)
def F143_R2 (e0_0 : Unit → Option (Int × Unit)) (er_1 : Int × Unit → Option (Int × Unit)) (rec : List (List UInt8) × List UInt8 × Int × Int × Unit → Option (Int × Unit)) (x2 : List (List UInt8) × List UInt8 × Int × Int × Unit) : Option (Int × Unit) :=
 (cond (decide (x2.2.2.2.1 < x2.2.2.1))
 (gd (decide ((0 : Int) ≤ x2.2.2.2.1))
 (Option.bind x2.1[(Int.toNat x2.2.2.2.1)]? fun y5 =>
 (cond (x2.2.1 == y5)
 (er_1 (x2.2.2.2.1, ()))
 (rec (x2.1, x2.2.1, x2.2.2.1, (IntKind.wrap IntKind.i64 (x2.2.2.2.1 + (1 : Int))), ())))))
 (e0_0 (())))
def F143 (a0 : List (List UInt8)) (a1 : List UInt8) : Option (Int × Unit) :=
 (iter (F143_R2
 (fun y6 =>
 (some ((-(1 : Int)), ())))
 (fun y7 =>
 (some (y7.1, ())))) fuel (a0, a1, (((List.length a0) : Nat) : Int), (0 : Int), ()))
def C143 : Fun := ⟨[(.ro (.slice .str)), (.ro .str)], [((.int .i64), .z)], fun z => F143 z.1 z.2.1⟩
def E143 : Env := ⟨19, tyTab tys, oneTab ones, fnTab [], false, [], [(2, [0, 1, 7, 8], []), (3, [0, 1, 7, 8], []), (6, [0, 1, 7, 8], []), (7, [], []), (100000, [], []), (100001, [0, 1, 7, 8], []), (99999, [4], [])], none, [], []⟩
def L143 : List (LoopS (Int × Unit)) := [⟨2, ⟨[(0, (.pv (.slice .str))), (1, (.pv .str)), (7, (.pv (.int .i64))), (8, (.pv (.int .i64)))], []⟩, fun κ => F143_R2 (fun y => κ.exit 0 (SSh.mk' ⟨[], []⟩ y)) (fun y => κ.ret (SSh.mk' ⟨[(4, (.pv (.int .i64)))], []⟩ y))⟩]
theorem L143_2 : RoundEq E143 L143 L143[0] (nthLoop (codeOf Tryz.f143) 0) := fun κ N x => by kernel_rfl
theorem C143_ok : QuietOk Tryz.prog 143 C143 := tQ E143 L143 [nthLoop (codeOf Tryz.f143) 0] Tryz.func143 ty_ok .nil (.cons L143[0] (by kernel_rfl) L143_2 .nil)
def F103 (a0 : List (List UInt8)) (a1 : List UInt8) : Option (Bool × Unit) :=
 (Option.bind (F143 a0 a1) fun y0 =>
 (some ((decide (y0.1 ≥ (0 : Int))), ())))
def C103 : Fun := ⟨[(.ro (.slice .str)), (.ro .str)], [(.bool, .z)], fun z => F103 z.1 z.2.1⟩
def E103 : Env := ⟨9, tyTab tys, oneTab ones, fnTab [(143, C143)], false, [], [(99999, [4], [])], none, [], []⟩
def L103 : List (LoopS (Bool × Unit)) := []
theorem C103_ok : QuietOk Tryz.prog 103 C103 := tQ E103 L103 [] Tryz.func103 ty_ok (.cons C143_ok .nil) .nil
def F102 (a0 : D112) (a1 : List (List UInt8)) : Option (Bool × Unit) :=
 (cond (!(a0.1 == [(105 : UInt8), (100 : UInt8)]))
 (Option.bind (F103 a1 a0.1) fun y0 =>
 (some ((!y0.1), ())))
 (some (false, ())))
def C102 : Fun := ⟨[(.ro Y112), (.rp (.slice .str))], [(.bool, .z)], fun z => F102 z.1 z.2.1⟩
def E102 : Env := ⟨14, tyTab tys, oneTab ones, fnTab [(103, C103)], false, [], [(99999, [3], [])], none, [], []⟩
def L102 : List (LoopS (Bool × Unit)) := []
theorem C102_ok : QuietOk Tryz.prog 102 C102 := tQ E102 L102 [] Tryz.func102 ty_ok (.cons C103_ok .nil) .nil
def F62 (a0 : D52) (a1 : List (List UInt8)) : Option (D52 × Unit) :=
 (cond ((((List.length a1) : Nat) : Int) == (0 : Int))
 (some (a0, ()))
 (Option.bind (F99 a0) fun y1 =>
 (Option.bind (F101 y1.1 (fun (v5 : D112) => (Option.map (fun (v6 : (Bool × Unit)) => v6.1) (F102 v5 a1)))) fun y2 =>
 (Option.bind (F100 y2.1) fun y3 =>
 (some (y3.1, ()))))))
def C62 : Fun := ⟨[(.ro Y52), (.ro (.slice .str))], [(Y52, .z)], fun z => F62 z.1 z.2.1⟩
def E62 : Env := ⟨20, tyTab tys, oneTab ones, fnTab [(99, C99), (100, C100), (101, C101), (102, C102)], false, [], [(3, [2, 3, 4], []), (99999, [4], [])], none, [], []⟩
def L62 : List (LoopS (D52 × Unit)) := []
theorem C62_ok : QuietOk Tryz.prog 62 C62 := tQ E62 L62 [] Tryz.func62 ty_ok (.consFr C99_ok (.cons C100_ok (.consIo C101_ok (.cons C102_ok .nil)))) .nil
def F28_R8 (e0_0 : List (D52) × Unit → Option (List (D52) × Unit)) (rec : List (D52) × Int × Int × D27 × List (D52) × Unit → Option (List (D52) × Unit)) (x8 : List (D52) × Int × Int × D27 × List (D52) × Unit) : Option (List (D52) × Unit) :=
 (cond (decide (x8.2.2.1 < x8.2.1))
 (gd (decide ((0 : Int) ≤ x8.2.2.1))
 (Option.bind x8.1[(Int.toNat x8.2.2.1)]? fun y10 =>
 (Option.bind (F62 y10 x8.2.2.2.1.2.2.2.2.1) fun y11 =>
 (gd (decide (((List.length x8.2.2.2.2.1) + (List.length [y11.1])) ≤ lim))
 (rec (x8.1, x8.2.1, (IntKind.wrap IntKind.i64 (x8.2.2.1 + (1 : Int))), x8.2.2.2.1, (x8.2.2.2.2.1 ++ [y11.1]), ()))))))
 (e0_0 (x8.2.2.2.2.1, ())))
def F28 (a0 : D27) (a1 : List (D52)) : Option (List (D52) × Unit) :=
 (Option.bind (F58 a1) fun y0 =>
 (Option.bind (F57 y0.1 (fun (v4 : D52) => (Option.map (fun (v5 : (Bool × Unit)) => v5.1) (F59 v4 a0)))) fun y1 =>
 (Option.bind (F61 y1.1 a0.2.1) fun y2 =>
 (gd (decide ((((List.length y2.1) : Nat) : Int) ≤ (((List.length y2.1) : Nat) : Int)))
 (gd (decide ((0 : Int) ≤ (cond (decide ((((List.length y2.1) : Nat) : Int) < a0.2.2.1)) (((List.length y2.1) : Nat) : Int) a0.2.2.1)))
 (gd (decide ((cond (decide ((((List.length y2.1) : Nat) : Int) < a0.2.2.1)) (((List.length y2.1) : Nat) : Int) a0.2.2.1) ≤ (((Int.toNat (((List.length y2.1) : Nat) : Int)) : Nat) : Int)))
 (let j4 : List (D52) × D27 × Unit → Option (List (D52) × Unit) := fun (y5 : List (D52) × D27 × Unit) =>
 (iter (F28_R8
 (fun y12 =>
 (some (y12.1, ())))) fuel (y5.1, (((List.length y5.1) : Nat) : Int), (0 : Int), y5.2.1, [], ()))
 (cond (decide (a0.2.2.2.1 > (0 : Int)))
 (gd (decide ((0 : Int) ≤ (cond (decide ((((List.length (List.drop (Int.toNat (cond (decide ((((List.length y2.1) : Nat) : Int) < a0.2.2.1)) (((List.length y2.1) : Nat) : Int) a0.2.2.1)) (List.take (Int.toNat (((List.length y2.1) : Nat) : Int)) y2.1))) : Nat) : Int) < a0.2.2.2.1)) (((List.length (List.drop (Int.toNat (cond (decide ((((List.length y2.1) : Nat) : Int) < a0.2.2.1)) (((List.length y2.1) : Nat) : Int) a0.2.2.1)) (List.take (Int.toNat (((List.length y2.1) : Nat) : Int)) y2.1))) : Nat) : Int) a0.2.2.2.1)))
 (gd (decide ((cond (decide ((((List.length (List.drop (Int.toNat (cond (decide ((((List.length y2.1) : Nat) : Int) < a0.2.2.1)) (((List.length y2.1) : Nat) : Int) a0.2.2.1)) (List.take (Int.toNat (((List.length y2.1) : Nat) : Int)) y2.1))) : Nat) : Int) < a0.2.2.2.1)) (((List.length (List.drop (Int.toNat (cond (decide ((((List.length y2.1) : Nat) : Int) < a0.2.2.1)) (((List.length y2.1) : Nat) : Int) a0.2.2.1)) (List.take (Int.toNat (((List.length y2.1) : Nat) : Int)) y2.1))) : Nat) : Int) a0.2.2.2.1) ≤ (((List.length (List.drop (Int.toNat (cond (decide ((((List.length y2.1) : Nat) : Int) < a0.2.2.1)) (((List.length y2.1) : Nat) : Int) a0.2.2.1)) (List.take (Int.toNat (((List.length y2.1) : Nat) : Int)) y2.1))) : Nat) : Int)))
 (j4 ((List.drop (Int.toNat (0 : Int)) (List.take (Int.toNat (cond (decide ((((List.length (List.drop (Int.toNat (cond (decide ((((List.length y2.1) : Nat) : Int) < a0.2.2.1)) (((List.length y2.1) : Nat) : Int) a0.2.2.1)) (List.take (Int.toNat (((List.length y2.1) : Nat) : Int)) y2.1))) : Nat) : Int) < a0.2.2.2.1)) (((List.length (List.drop (Int.toNat (cond (decide ((((List.length y2.1) : Nat) : Int) < a0.2.2.1)) (((List.length y2.1) : Nat) : Int) a0.2.2.1)) (List.take (Int.toNat (((List.length y2.1) : Nat) : Int)) y2.1))) : Nat) : Int) a0.2.2.2.1)) (List.drop (Int.toNat (cond (decide ((((List.length y2.1) : Nat) : Int) < a0.2.2.1)) (((List.length y2.1) : Nat) : Int) a0.2.2.1)) (List.take (Int.toNat (((List.length y2.1) : Nat) : Int)) y2.1)))), a0, ()))))
 (j4 ((List.drop (Int.toNat (cond (decide ((((List.length y2.1) : Nat) : Int) < a0.2.2.1)) (((List.length y2.1) : Nat) : Int) a0.2.2.1)) (List.take (Int.toNat (((List.length y2.1) : Nat) : Int)) y2.1)), a0, ()))))))))))
def C28 : Fun := ⟨[(.ro Y27), (.ro (.slice Y52))], [((.slice Y52), (.own .z))], fun z => F28 z.1 z.2.1⟩
def E28 : Env := ⟨50, tyTab tys, oneTab ones, fnTab [(57, C57), (58, C58), (59, C59), (61, C61), (62, C62)], true, [], [(3, [2, 5], []), (6, [2, 5], []), (8, [2, 6, 35, 36, 37], []), (9, [2, 6, 35, 36, 37], []), (12, [6], []), (100000, [6], []), (100001, [2, 6, 35, 36, 37], []), (200003, [5], []), (99999, [4], [])], none, [], []⟩
def L28 : List (LoopS (List (D52) × Unit)) := [⟨8, ⟨[(2, (.ptr 16 [])), (6, (.ref (.slice Y52) 272 [])), (35, (.pv (.slice Y52))), (36, (.pv (.int .i64))), (37, (.pv (.int .i64)))], [(16, (.data true Y27 .z)), (272, (.data false (.slice Y52) (.own .z)))]⟩, fun κ => F28_R8 (fun y => κ.exit 0 (SSh.mk' ⟨[(6, (.ref (.slice Y52) 272 []))], [(272, (.data false (.slice Y52) (.own .z)))]⟩ y))⟩]
theorem L28_8 : RoundEq E28 L28 L28[0] (nthLoop (codeOf Tryz.f28) 0) := fun κ N x => by kernel_rfl
theorem C28_ok : FreshOk Tryz.prog 28 C28 := tF E28 L28 [nthLoop (codeOf Tryz.f28) 0] Tryz.func28 ty_ok (.consIo C57_ok (.consFr C58_ok (.cons C59_ok (.consFr C61_ok (.cons C62_ok .nil))))) (.cons L28[0] (by kernel_rfl) L28_8 .nil)
def F9 (a0 : D27) (a1 : List (D52)) : Option (List (D52) × Int × Unit) :=
 (cond (decide ((((List.length a1) : Nat) : Int) > (4096 : Int)))
 (some ([], ((2 : Int), ())))
 (Option.bind (F26 a0) fun y1 =>
 (cond (!y1.1)
 (some ([], ((1 : Int), ())))
 (Option.bind (F27 a1) fun y2 =>
 (cond (!y2.1)
 (some ([], ((1 : Int), ())))
 (Option.bind (F28 a0 a1) fun y3 =>
 (some (y3.1, ((0 : Int), ())))))))))
def C9 : Fun := ⟨[(.ro Y27), (.ro (.slice Y52))], [((.slice Y52), (.own .z)), ((.int .i64), .z)], fun z => F9 z.1 z.2.1⟩
def E9 : Env := ⟨22, tyTab tys, oneTab ones, fnTab [(26, C26), (27, C27), (28, C28)], true, [], [(5, [1, 2], []), (100000, [1, 2], []), (99999, [4, 5], [])], none, [], []⟩
def L9 : List (LoopS (List (D52) × Int × Unit)) := []
theorem C9_ok : FreshOk Tryz.prog 9 C9 := tF E9 L9 [] Tryz.func9 ty_ok (.cons C26_ok (.cons C27_ok (.consFr C28_ok .nil))) .nil
def F29 (a0 : D52) (a1 : D52) : Option (Bool × Unit) :=
 (cond (a0.1 != a1.1)
 (some (false, ()))
 (cond (a0.2.1 != a1.2.1)
 (some (false, ()))
 (cond (!(a0.2.2.1 == a1.2.2.1))
 (some (false, ()))
 (some (true, ())))))
def C29 : Fun := ⟨[(.ro Y52), (.ro Y52)], [(.bool, .z)], fun z => F29 z.1 z.2.1⟩
def E29 : Env := ⟨20, tyTab tys, oneTab ones, fnTab [], false, [], [(3, [2, 3], []), (5, [2, 3], []), (7, [], []), (99999, [4], [])], none, [], []⟩
def L29 : List (LoopS (Bool × Unit)) := []
theorem C29_ok : QuietOk Tryz.prog 29 C29 := tQ E29 L29 [] Tryz.func29 ty_ok .nil .nil
def F10_R4 (e0_0 : Unit → Option (Bool × Unit)) (er_1 : Bool × Unit → Option (Bool × Unit)) (rec : List (D52) × List (D52) × Int × Unit → Option (Bool × Unit)) (x3 : List (D52) × List (D52) × Int × Unit) : Option (Bool × Unit) :=
 (cond (decide (x3.2.2.1 < (((List.length x3.1) : Nat) : Int)))
 (gd (decide ((0 : Int) ≤ x3.2.2.1))
 (Option.bind x3.1[(Int.toNat x3.2.2.1)]? fun y6 =>
 (gd (decide ((0 : Int) ≤ x3.2.2.1))
 (Option.bind x3.2.1[(Int.toNat x3.2.2.1)]? fun y7 =>
 (Option.bind (F29 y6 y7) fun y8 =>
 (cond (!y8.1)
 (er_1 (false, ()))
 (rec (x3.1, x3.2.1, (IntKind.wrap IntKind.i64 (x3.2.2.1 + (1 : Int))), ()))))))))
 (e0_0 (())))
def F10 (a0 : List (D52)) (a1 : List (D52)) : Option (Bool × Unit) :=
 (cond ((((List.length a0) : Nat) : Int) != (((List.length a1) : Nat) : Int))
 (some (false, ()))
 (iter (F10_R4
 (fun y9 =>
 (some (true, ())))
 (fun y10 =>
 (some (y10.1, ())))) fuel (a0, a1, (0 : Int), ())))
def C10 : Fun := ⟨[(.ro (.slice Y52)), (.ro (.slice Y52))], [(.bool, .z)], fun z => F10 z.1 z.2.1⟩
def E10 : Env := ⟨27, tyTab tys, oneTab ones, fnTab [(29, C29)], false, [], [(3, [0, 1], []), (4, [0, 1, 5], []), (5, [0, 1, 5], []), (6, [0, 1, 5], []), (8, [], []), (100000, [], []), (100001, [0, 1, 5], []), (99999, [4], [])], none, [], []⟩
def L10 : List (LoopS (Bool × Unit)) := [⟨4, ⟨[(0, (.pv (.slice Y52))), (1, (.pv (.slice Y52))), (5, (.pv (.int .i64)))], []⟩, fun κ => F10_R4 (fun y => κ.exit 0 (SSh.mk' ⟨[], []⟩ y)) (fun y => κ.ret (SSh.mk' ⟨[(4, (.pv .bool))], []⟩ y))⟩]
theorem L10_4 : RoundEq E10 L10 L10[0] (nthLoop (codeOf Tryz.f10) 0) := fun κ N x => by kernel_rfl
theorem C10_ok : QuietOk Tryz.prog 10 C10 := tQ E10 L10 [nthLoop (codeOf Tryz.f10) 0] Tryz.func10 ty_ok (.cons C29_ok .nil) (.cons L10[0] (by kernel_rfl) L10_4 .nil)
def F176 (a0 : D102) (a1 : D102) : Option (Bool × Unit) :=
 (cond (a0.1 != a1.1)
 (some (false, ()))
 (cond (!(a0.2.1 == a1.2.1))
 (some (false, ()))
 (Option.bind (F29 a0.2.2.1 a1.2.2.1) fun y3 =>
 (cond (!y3.1)
 (some (false, ()))
 (some (true, ()))))))
def C176 : Fun := ⟨[(.ro Y102), (.ro Y102)], [(.bool, .z)], fun z => F176 z.1 z.2.1⟩
def E176 : Env := ⟨21, tyTab tys, oneTab ones, fnTab [(29, C29)], false, [], [(3, [2, 3], []), (5, [2, 3], []), (7, [], []), (99999, [4], [])], none, [], []⟩
def L176 : List (LoopS (Bool × Unit)) := []
theorem C176_ok : QuietOk Tryz.prog 176 C176 := tQ E176 L176 [] Tryz.func176 ty_ok (.cons C29_ok .nil) .nil
def F144_R4 (e0_0 : Unit → Option (Bool × Unit)) (er_1 : Bool × Unit → Option (Bool × Unit)) (rec : List (D102) × List (D102) × Int × Unit → Option (Bool × Unit)) (x3 : List (D102) × List (D102) × Int × Unit) : Option (Bool × Unit) :=
 (cond (decide (x3.2.2.1 < (((List.length x3.1) : Nat) : Int)))
 (gd (decide ((0 : Int) ≤ x3.2.2.1))
 (Option.bind x3.1[(Int.toNat x3.2.2.1)]? fun y6 =>
 (gd (decide ((0 : Int) ≤ x3.2.2.1))
 (Option.bind x3.2.1[(Int.toNat x3.2.2.1)]? fun y7 =>
 (Option.bind (F176 y6 y7) fun y8 =>
 (cond (!y8.1)
 (er_1 (false, ()))
 (rec (x3.1, x3.2.1, (IntKind.wrap IntKind.i64 (x3.2.2.1 + (1 : Int))), ()))))))))
 (e0_0 (())))
def F144 (a0 : List (D102)) (a1 : List (D102)) : Option (Bool × Unit) :=
 (cond ((((List.length a0) : Nat) : Int) != (((List.length a1) : Nat) : Int))
 (some (false, ()))
 (iter (F144_R4
 (fun y9 =>
 (some (true, ())))
 (fun y10 =>
 (some (y10.1, ())))) fuel (a0, a1, (0 : Int), ())))
def C144 : Fun := ⟨[(.ro (.slice Y102)), (.ro (.slice Y102))], [(.bool, .z)], fun z => F144 z.1 z.2.1⟩
def E144 : Env := ⟨27, tyTab tys, oneTab ones, fnTab [(176, C176)], false, [], [(3, [0, 1], []), (4, [0, 1, 5], []), (5, [0, 1, 5], []), (6, [0, 1, 5], []), (8, [], []), (100000, [], []), (100001, [0, 1, 5], []), (99999, [4], [])], none, [], []⟩
def L144 : List (LoopS (Bool × Unit)) := [⟨4, ⟨[(0, (.pv (.slice Y102))), (1, (.pv (.slice Y102))), (5, (.pv (.int .i64)))], []⟩, fun κ => F144_R4 (fun y => κ.exit 0 (SSh.mk' ⟨[], []⟩ y)) (fun y => κ.ret (SSh.mk' ⟨[(4, (.pv .bool))], []⟩ y))⟩]
theorem L144_4 : RoundEq E144 L144 L144[0] (nthLoop (codeOf Tryz.f144) 0) := fun κ N x => by kernel_rfl
theorem C144_ok : QuietOk Tryz.prog 144 C144 := tQ E144 L144 [nthLoop (codeOf Tryz.f144) 0] Tryz.func144 ty_ok (.cons C176_ok .nil) (.cons L144[0] (by kernel_rfl) L144_4 .nil)
def F104 (a0 : D96) (a1 : D96) : Option (Bool × Unit) :=
 (Option.bind (F144 a0.1 a1.1) fun y1 =>
 (cond (!y1.1)
 (some (false, ()))
 (some (true, ()))))
def C104 : Fun := ⟨[(.ro Y96), (.ro Y96)], [(.bool, .z)], fun z => F104 z.1 z.2.1⟩
def E104 : Env := ⟨11, tyTab tys, oneTab ones, fnTab [(144, C144)], false, [], [(3, [], []), (99999, [4], [])], none, [], []⟩
def L104 : List (LoopS (Bool × Unit)) := []
theorem C104_ok : QuietOk Tryz.prog 104 C104 := tQ E104 L104 [] Tryz.func104 ty_ok (.cons C144_ok .nil) .nil
def F63_R4 (e0_0 : Unit → Option (Bool × Unit)) (er_1 : Bool × Unit → Option (Bool × Unit)) (rec : List (D96) × List (D96) × Int × Unit → Option (Bool × Unit)) (x3 : List (D96) × List (D96) × Int × Unit) : Option (Bool × Unit) :=
 (cond (decide (x3.2.2.1 < (((List.length x3.1) : Nat) : Int)))
 (gd (decide ((0 : Int) ≤ x3.2.2.1))
 (Option.bind x3.1[(Int.toNat x3.2.2.1)]? fun y6 =>
 (gd (decide ((0 : Int) ≤ x3.2.2.1))
 (Option.bind x3.2.1[(Int.toNat x3.2.2.1)]? fun y7 =>
 (Option.bind (F104 y6 y7) fun y8 =>
 (cond (!y8.1)
 (er_1 (false, ()))
 (rec (x3.1, x3.2.1, (IntKind.wrap IntKind.i64 (x3.2.2.1 + (1 : Int))), ()))))))))
 (e0_0 (())))
def F63 (a0 : List (D96)) (a1 : List (D96)) : Option (Bool × Unit) :=
 (cond ((((List.length a0) : Nat) : Int) != (((List.length a1) : Nat) : Int))
 (some (false, ()))
 (iter (F63_R4
 (fun y9 =>
 (some (true, ())))
 (fun y10 =>
 (some (y10.1, ())))) fuel (a0, a1, (0 : Int), ())))
def C63 : Fun := ⟨[(.ro (.slice Y96)), (.ro (.slice Y96))], [(.bool, .z)], fun z => F63 z.1 z.2.1⟩
def E63 : Env := ⟨27, tyTab tys, oneTab ones, fnTab [(104, C104)], false, [], [(3, [0, 1], []), (4, [0, 1, 5], []), (5, [0, 1, 5], []), (6, [0, 1, 5], []), (8, [], []), (100000, [], []), (100001, [0, 1, 5], []), (99999, [4], [])], none, [], []⟩
def L63 : List (LoopS (Bool × Unit)) := [⟨4, ⟨[(0, (.pv (.slice Y96))), (1, (.pv (.slice Y96))), (5, (.pv (.int .i64)))], []⟩, fun κ => F63_R4 (fun y => κ.exit 0 (SSh.mk' ⟨[], []⟩ y)) (fun y => κ.ret (SSh.mk' ⟨[(4, (.pv .bool))], []⟩ y))⟩]
theorem L63_4 : RoundEq E63 L63 L63[0] (nthLoop (codeOf Tryz.f63) 0) := fun κ N x => by kernel_rfl
theorem C63_ok : QuietOk Tryz.prog 63 C63 := tQ E63 L63 [nthLoop (codeOf Tryz.f63) 0] Tryz.func63 ty_ok (.cons C104_ok .nil) (.cons L63[0] (by kernel_rfl) L63_4 .nil)
def F30 (a0 : D23) (a1 : D23) : Option (Bool × Unit) :=
 (Option.bind (F63 a0.1 a1.1) fun y1 =>
 (cond (!y1.1)
 (some (false, ()))
 (some (true, ()))))
def C30 : Fun := ⟨[(.ro Y23), (.ro Y23)], [(.bool, .z)], fun z => F30 z.1 z.2.1⟩
def E30 : Env := ⟨11, tyTab tys, oneTab ones, fnTab [(63, C63)], false, [], [(3, [], []), (99999, [4], [])], none, [], []⟩
def L30 : List (LoopS (Bool × Unit)) := []
theorem C30_ok : QuietOk Tryz.prog 30 C30 := tQ E30 L30 [] Tryz.func30 ty_ok (.cons C63_ok .nil) .nil
def F64 (a0 : D72) (a1 : D72) : Option (Bool × Unit) :=
 (cond (!(a0.1 == a1.1))
 (some (false, ()))
 (cond (!(a0.2.1 == a1.2.1))
 (some (false, ()))
 (some (true, ()))))
def C64 : Fun := ⟨[(.ro Y72), (.ro Y72)], [(.bool, .z)], fun z => F64 z.1 z.2.1⟩
def E64 : Env := ⟨15, tyTab tys, oneTab ones, fnTab [], false, [], [(3, [2, 3], []), (5, [], []), (99999, [4], [])], none, [], []⟩
def L64 : List (LoopS (Bool × Unit)) := []
theorem C64_ok : QuietOk Tryz.prog 64 C64 := tQ E64 L64 [] Tryz.func64 ty_ok .nil .nil
def F31_R4 (e0_0 : Unit → Option (Bool × Unit)) (er_1 : Bool × Unit → Option (Bool × Unit)) (rec : List (D72) × List (D72) × Int × Unit → Option (Bool × Unit)) (x3 : List (D72) × List (D72) × Int × Unit) : Option (Bool × Unit) :=
 (cond (decide (x3.2.2.1 < (((List.length x3.1) : Nat) : Int)))
 (gd (decide ((0 : Int) ≤ x3.2.2.1))
 (Option.bind x3.1[(Int.toNat x3.2.2.1)]? fun y6 =>
 (gd (decide ((0 : Int) ≤ x3.2.2.1))
 (Option.bind x3.2.1[(Int.toNat x3.2.2.1)]? fun y7 =>
 (Option.bind (F64 y6 y7) fun y8 =>
 (cond (!y8.1)
 (er_1 (false, ()))
 (rec (x3.1, x3.2.1, (IntKind.wrap IntKind.i64 (x3.2.2.1 + (1 : Int))), ()))))))))
 (e0_0 (())))
def F31 (a0 : List (D72)) (a1 : List (D72)) : Option (Bool × Unit) :=
 (cond ((((List.length a0) : Nat) : Int) != (((List.length a1) : Nat) : Int))
 (some (false, ()))
 (iter (F31_R4
 (fun y9 =>
 (some (true, ())))
 (fun y10 =>
 (some (y10.1, ())))) fuel (a0, a1, (0 : Int), ())))
def C31 : Fun := ⟨[(.ro (.slice Y72)), (.ro (.slice Y72))], [(.bool, .z)], fun z => F31 z.1 z.2.1⟩
def E31 : Env := ⟨27, tyTab tys, oneTab ones, fnTab [(64, C64)], false, [], [(3, [0, 1], []), (4, [0, 1, 5], []), (5, [0, 1, 5], []), (6, [0, 1, 5], []), (8, [], []), (100000, [], []), (100001, [0, 1, 5], []), (99999, [4], [])], none, [], []⟩
def L31 : List (LoopS (Bool × Unit)) := [⟨4, ⟨[(0, (.pv (.slice Y72))), (1, (.pv (.slice Y72))), (5, (.pv (.int .i64)))], []⟩, fun κ => F31_R4 (fun y => κ.exit 0 (SSh.mk' ⟨[], []⟩ y)) (fun y => κ.ret (SSh.mk' ⟨[(4, (.pv .bool))], []⟩ y))⟩]
theorem L31_4 : RoundEq E31 L31 L31[0] (nthLoop (codeOf Tryz.f31) 0) := fun κ N x => by kernel_rfl
theorem C31_ok : QuietOk Tryz.prog 31 C31 := tQ E31 L31 [nthLoop (codeOf Tryz.f31) 0] Tryz.func31 ty_ok (.cons C64_ok .nil) (.cons L31[0] (by kernel_rfl) L31_4 .nil)
def F32_R4 (e0_0 : Unit → Option (Bool × Unit)) (er_1 : Bool × Unit → Option (Bool × Unit)) (rec : List (List UInt8) × List (List UInt8) × Int × Unit → Option (Bool × Unit)) (x3 : List (List UInt8) × List (List UInt8) × Int × Unit) : Option (Bool × Unit) :=
 (cond (decide (x3.2.2.1 < (((List.length x3.1) : Nat) : Int)))
 (gd (decide ((0 : Int) ≤ x3.2.2.1))
 (Option.bind x3.1[(Int.toNat x3.2.2.1)]? fun y6 =>
 (gd (decide ((0 : Int) ≤ x3.2.2.1))
 (Option.bind x3.2.1[(Int.toNat x3.2.2.1)]? fun y7 =>
 (cond (!(y6 == y7))
 (er_1 (false, ()))
 (rec (x3.1, x3.2.1, (IntKind.wrap IntKind.i64 (x3.2.2.1 + (1 : Int))), ())))))))
 (e0_0 (())))
def F32 (a0 : List (List UInt8)) (a1 : List (List UInt8)) : Option (Bool × Unit) :=
 (cond ((((List.length a0) : Nat) : Int) != (((List.length a1) : Nat) : Int))
 (some (false, ()))
 (iter (F32_R4
 (fun y8 =>
 (some (true, ())))
 (fun y9 =>
 (some (y9.1, ())))) fuel (a0, a1, (0 : Int), ())))
def C32 : Fun := ⟨[(.ro (.slice .str)), (.ro (.slice .str))], [(.bool, .z)], fun z => F32 z.1 z.2.1⟩
def E32 : Env := ⟨26, tyTab tys, oneTab ones, fnTab [], false, [], [(3, [0, 1], []), (4, [0, 1, 5], []), (5, [0, 1, 5], []), (6, [0, 1, 5], []), (8, [], []), (100000, [], []), (100001, [0, 1, 5], []), (99999, [4], [])], none, [], []⟩
def L32 : List (LoopS (Bool × Unit)) := [⟨4, ⟨[(0, (.pv (.slice .str))), (1, (.pv (.slice .str))), (5, (.pv (.int .i64)))], []⟩, fun κ => F32_R4 (fun y => κ.exit 0 (SSh.mk' ⟨[], []⟩ y)) (fun y => κ.ret (SSh.mk' ⟨[(4, (.pv .bool))], []⟩ y))⟩]
theorem L32_4 : RoundEq E32 L32 L32[0] (nthLoop (codeOf Tryz.f32) 0) := fun κ N x => by kernel_rfl
theorem C32_ok : QuietOk Tryz.prog 32 C32 := tQ E32 L32 [nthLoop (codeOf Tryz.f32) 0] Tryz.func32 ty_ok .nil (.cons L32[0] (by kernel_rfl) L32_4 .nil)
def F11 (a0 : D27) (a1 : D27) : Option (Bool × Unit) :=
 (Option.bind (F30 a0.1 a1.1) fun y1 =>
 (cond (!y1.1)
 (some (false, ()))
 (Option.bind (F31 a0.2.1 a1.2.1) fun y3 =>
 (cond (!y3.1)
 (some (false, ()))
 (cond (a0.2.2.1 != a1.2.2.1)
 (some (false, ()))
 (cond (a0.2.2.2.1 != a1.2.2.2.1)
 (some (false, ()))
 (Option.bind (F32 a0.2.2.2.2.1 a1.2.2.2.2.1) fun y7 =>
 (cond (!y7.1)
 (some (false, ()))
 (cond (!(a0.2.2.2.2.2.1 == a1.2.2.2.2.2.1))
 (some (false, ()))
 (some (true, ())))))))))))
def C11 : Fun := ⟨[(.ro Y27), (.ro Y27)], [(.bool, .z)], fun z => F11 z.1 z.2.1⟩
def E11 : Env := ⟨38, tyTab tys, oneTab ones, fnTab [(30, C30), (31, C31), (32, C32)], false, [], [(3, [2, 3], []), (5, [2, 3], []), (7, [2, 3], []), (9, [2, 3], []), (11, [2, 3], []), (13, [], []), (99999, [4], [])], none, [], []⟩
def L11 : List (LoopS (Bool × Unit)) := []
theorem C11_ok : QuietOk Tryz.prog 11 C11 := tQ E11 L11 [] Tryz.func11 ty_ok (.cons C30_ok (.cons C31_ok (.cons C32_ok .nil))) .nil
def F36_R4 (e0_0 : List UInt8 × Unit → Option (List UInt8 × Unit)) (rec : Int × List UInt8 × Unit → Option (List UInt8 × Unit)) (x3 : Int × List UInt8 × Unit) : Option (List UInt8 × Unit) :=
 (cond (decide (x3.1 > (0 : Int)))
 (gd (decide (((List.length (List.map (fun (v8 : Int) => (UInt8.ofNat (Int.toNat v8))) [(IntKind.wrap IntKind.u8 (IntKind.wrap IntKind.i64 ((48 : Int) + (Int.tmod x3.1 (10 : Int)))))])) + (List.length x3.2.1)) ≤ 9223372036854775807))
 (rec ((IntKind.wrap IntKind.i64 (Int.tdiv x3.1 (10 : Int))), ((List.map (fun (v8 : Int) => (UInt8.ofNat (Int.toNat v8))) [(IntKind.wrap IntKind.u8 (IntKind.wrap IntKind.i64 ((48 : Int) + (Int.tmod x3.1 (10 : Int)))))]) ++ x3.2.1), ())))
 (e0_0 (x3.2.1, ())))
def F36 (a0 : Int) : Option (List UInt8 × Unit) :=
 (cond (decide (a0 ≤ (0 : Int)))
 (some ([(109 : UInt8), (48 : UInt8)], ()))
 (iter (F36_R4
 (fun y5 =>
 (gd (decide (((List.length ([(109 : UInt8)] : List UInt8)) + (List.length y5.1)) ≤ 9223372036854775807))
 (some (([(109 : UInt8)] ++ y5.1), ()))))) fuel (a0, [], ())))
def C36 : Fun := ⟨[(.ro (.int .i64))], [(.str, .z)], fun z => F36 z.1⟩
def E36 : Env := ⟨20, tyTab tys, oneTab ones, fnTab [], false, [], [(3, [0], []), (4, [0, 3], []), (5, [0, 3], []), (7, [3], []), (100000, [3], []), (100001, [0, 3], []), (99999, [2], [])], none, [], []⟩
def L36 : List (LoopS (List UInt8 × Unit)) := [⟨4, ⟨[(0, (.pv (.int .i64))), (3, (.pv .str))], []⟩, fun κ => F36_R4 (fun y => κ.exit 0 (SSh.mk' ⟨[(3, (.pv .str))], []⟩ y))⟩]
theorem L36_4 : RoundEq E36 L36 L36[0] (nthLoop (codeOf Tryz.f36) 0) := fun κ N x => by kernel_rfl
theorem C36_ok : QuietOk Tryz.prog 36 C36 := tQ E36 L36 [nthLoop (codeOf Tryz.f36) 0] Tryz.func36 ty_ok .nil (.cons L36[0] (by kernel_rfl) L36_4 .nil)
def F105_R2 (e0_0 : Int × List (D102) × Unit → Option (Int × List (D102) × Unit)) (rec : Int × Int × List (D102) × Unit → Option (Int × List (D102) × Unit)) (x2 : Int × Int × List (D102) × Unit) : Option (Int × List (D102) × Unit) :=
 (cond (decide (x2.2.1 < (((List.length x2.2.2.1) : Nat) : Int)))
 (gd (decide ((0 : Int) ≤ x2.2.1))
 (gd (decide (x2.2.1 < (((List.length x2.2.2.1) : Nat) : Int)))
 (Option.bind x2.2.2.1[(Int.toNat x2.2.1)]? fun y4 =>
 (Option.bind (F36 (IntKind.wrap IntKind.i64 (x2.1 + (1 : Int)))) fun y5 =>
 (gd (decide ((0 : Int) ≤ x2.2.1))
 (gd (decide (x2.2.1 < (((List.length (List.set x2.2.2.1 (Int.toNat x2.2.1) (x2.1, y4.2))) : Nat) : Int)))
 (Option.bind (List.set x2.2.2.1 (Int.toNat x2.2.1) (x2.1, y4.2))[(Int.toNat x2.2.1)]? fun y6 =>
 (gd (decide ((0 : Int) ≤ x2.2.1))
 (gd (decide (x2.2.1 < (((List.length (List.set (List.set x2.2.2.1 (Int.toNat x2.2.1) (x2.1, y4.2)) (Int.toNat x2.2.1) (y6.1, (y5.1, y6.2.2)))) : Nat) : Int)))
 (Option.bind (List.set (List.set x2.2.2.1 (Int.toNat x2.2.1) (x2.1, y4.2)) (Int.toNat x2.2.1) (y6.1, (y5.1, y6.2.2)))[(Int.toNat x2.2.1)]? fun y7 =>
 (gd (decide ((0 : Int) ≤ x2.2.1))
 (gd (decide (x2.2.1 < (((List.length (List.set (List.set (List.set x2.2.2.1 (Int.toNat x2.2.1) (x2.1, y4.2)) (Int.toNat x2.2.1) (y6.1, (y5.1, y6.2.2))) (Int.toNat x2.2.1) (y7.1, (y7.2.1, (((IntKind.wrap IntKind.i64 ((IntKind.wrap IntKind.i64 (x2.1 + (1 : Int))) + (1 : Int))), y7.2.2.1.2), y7.2.2.2))))) : Nat) : Int)))
 (Option.bind (List.set (List.set (List.set x2.2.2.1 (Int.toNat x2.2.1) (x2.1, y4.2)) (Int.toNat x2.2.1) (y6.1, (y5.1, y6.2.2))) (Int.toNat x2.2.1) (y7.1, (y7.2.1, (((IntKind.wrap IntKind.i64 ((IntKind.wrap IntKind.i64 (x2.1 + (1 : Int))) + (1 : Int))), y7.2.2.1.2), y7.2.2.2))))[(Int.toNat x2.2.1)]? fun y8 =>
 (Option.bind (F36 (IntKind.wrap IntKind.i64 ((IntKind.wrap IntKind.i64 ((IntKind.wrap IntKind.i64 ((IntKind.wrap IntKind.i64 (x2.1 + (1 : Int))) + (1 : Int))) + (1 : Int))) + (1 : Int)))) fun y9 =>
 (gd (decide ((0 : Int) ≤ x2.2.1))
 (gd (decide (x2.2.1 < (((List.length (List.set (List.set (List.set (List.set x2.2.2.1 (Int.toNat x2.2.1) (x2.1, y4.2)) (Int.toNat x2.2.1) (y6.1, (y5.1, y6.2.2))) (Int.toNat x2.2.1) (y7.1, (y7.2.1, (((IntKind.wrap IntKind.i64 ((IntKind.wrap IntKind.i64 (x2.1 + (1 : Int))) + (1 : Int))), y7.2.2.1.2), y7.2.2.2)))) (Int.toNat x2.2.1) (y8.1, (y8.2.1, ((y8.2.2.1.1, ((IntKind.wrap IntKind.i64 ((IntKind.wrap IntKind.i64 ((IntKind.wrap IntKind.i64 (x2.1 + (1 : Int))) + (1 : Int))) + (1 : Int))), y8.2.2.1.2.2)), y8.2.2.2))))) : Nat) : Int)))
 (Option.bind (List.set (List.set (List.set (List.set x2.2.2.1 (Int.toNat x2.2.1) (x2.1, y4.2)) (Int.toNat x2.2.1) (y6.1, (y5.1, y6.2.2))) (Int.toNat x2.2.1) (y7.1, (y7.2.1, (((IntKind.wrap IntKind.i64 ((IntKind.wrap IntKind.i64 (x2.1 + (1 : Int))) + (1 : Int))), y7.2.2.1.2), y7.2.2.2)))) (Int.toNat x2.2.1) (y8.1, (y8.2.1, ((y8.2.2.1.1, ((IntKind.wrap IntKind.i64 ((IntKind.wrap IntKind.i64 ((IntKind.wrap IntKind.i64 (x2.1 + (1 : Int))) + (1 : Int))) + (1 : Int))), y8.2.2.1.2.2)), y8.2.2.2))))[(Int.toNat x2.2.1)]? fun y10 =>
 (rec ((IntKind.wrap IntKind.i64 ((IntKind.wrap IntKind.i64 ((IntKind.wrap IntKind.i64 ((IntKind.wrap IntKind.i64 ((IntKind.wrap IntKind.i64 (x2.1 + (1 : Int))) + (1 : Int))) + (1 : Int))) + (1 : Int))) + (1 : Int))), (IntKind.wrap IntKind.i64 (x2.2.1 + (1 : Int))), (List.set (List.set (List.set (List.set (List.set x2.2.2.1 (Int.toNat x2.2.1) (x2.1, y4.2)) (Int.toNat x2.2.1) (y6.1, (y5.1, y6.2.2))) (Int.toNat x2.2.1) (y7.1, (y7.2.1, (((IntKind.wrap IntKind.i64 ((IntKind.wrap IntKind.i64 (x2.1 + (1 : Int))) + (1 : Int))), y7.2.2.1.2), y7.2.2.2)))) (Int.toNat x2.2.1) (y8.1, (y8.2.1, ((y8.2.2.1.1, ((IntKind.wrap IntKind.i64 ((IntKind.wrap IntKind.i64 ((IntKind.wrap IntKind.i64 (x2.1 + (1 : Int))) + (1 : Int))) + (1 : Int))), y8.2.2.1.2.2)), y8.2.2.2)))) (Int.toNat x2.2.1) (y10.1, (y10.2.1, ((y10.2.2.1.1, (y10.2.2.1.2.1, (y9.1, y10.2.2.1.2.2.2))), y10.2.2.2)))), ())))))))))))))))))))
 (e0_0 (x2.1, x2.2.2.1, ())))
def F105 (a0 : List (D102)) (a1 : Int) : Option (Int × List (D102) × Unit) :=
 (iter (F105_R2
 (fun y11 =>
 (some (y11.1, (y11.2.1, ()))))) fuel (a1, (0 : Int), a0, ()))
def C105 : Fun := ⟨[(.io (.slice Y102) (.own .z)), (.ro (.int .i64))], [((.int .i64), .z)], fun z => F105 z.1 z.2.1⟩
def E105 : Env := ⟨53, tyTab tys, oneTab ones, fnTab [(36, C36)], false, [], [(2, [0, 1, 5], [4]), (4, [0, 1, 5], [4]), (14, [1], [4]), (100000, [1], [4]), (100001, [0, 1, 5], [4]), (99999, [4], [4])], none, [], []⟩
def L105 : List (LoopS (Int × List (D102) × Unit)) := [⟨2, ⟨[(0, (.ref (.slice Y102) 4 [])), (1, (.pv (.int .i64))), (5, (.pv (.int .i64)))], [(4, (.data false (.slice Y102) (.own .z)))]⟩, fun κ => F105_R2 (fun y => κ.exit 0 (SSh.mk' ⟨[(1, (.pv (.int .i64)))], [(4, (.data false (.slice Y102) (.own .z)))]⟩ y))⟩]
theorem L105_2 : ∀ p : Option Src, RoundEq { E105 with pin := p } L105 L105[0] (nthLoop (codeOf Tryz.f105) 0) := fun p κ N x => by kernel_rfl
theorem C105_ok : IoOk Tryz.prog 105 C105 := tO E105 L105 [nthLoop (codeOf Tryz.f105) 0] Tryz.func105 ty_ok (.cons C36_ok .nil) (fun p => (.cons L105[0] (by kernel_rfl) (L105_2 p) .nil))
end
end Go.V
