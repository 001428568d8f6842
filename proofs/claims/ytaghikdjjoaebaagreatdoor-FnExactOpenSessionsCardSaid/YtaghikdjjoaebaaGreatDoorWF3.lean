/- What functions of the program compute, printed by a program of ours. No condition. -/
import Derived.Test.YtaghikdjjoaebaaGreatDoorWF2
namespace Go.V
open Go.Proofs
set_option maxRecDepth 100000
set_option linter.unusedVariables false
noncomputable def F217 (a0 : D251) (a1 : List UInt8) : Option (Int × Unit) :=
 (Option.bind (F148 a0.1 a1) fun y0 =>
 (some (y0.1, ())))
noncomputable def C217 : Fun := ⟨[(.ro Y251), (.ro .str)], [((.int .i64), .z)], fun z => F217 z.1 z.2.1⟩
noncomputable def E217 : Env := ⟨9, tyTab tys, oneTab ones, fnTab [(148, C148)], false, [], [(99999, [4], [])], none, []⟩
noncomputable def L217 : List (LoopS (Int × Unit)) := []
theorem C217_ok : QuietOk Tryz.prog 217 C217 := tQ E217 L217 [] Tryz.func217 ty_ok (.cons C148_ok .nil) .nil
noncomputable def F216_R3 (e0_0 : List (D251) × List UInt8 × Int × Int × Unit → Option (Int × Bool × Unit)) (rec : List (D251) × List UInt8 × Int × Int × Int × Unit → Option (Int × Bool × Unit)) (x2 : List (D251) × List UInt8 × Int × Int × Int × Unit) : Option (Int × Bool × Unit) :=
 (cond (decide (x2.2.2.2.1 < x2.2.2.2.2.1))
 (gd (decide ((0 : Int) ≤ (IntKind.wrap IntKind.i64 (Int.fdiv (IntKind.wrap IntKind.u64 (IntKind.wrap IntKind.i64 (x2.2.2.2.1 + x2.2.2.2.2.1))) ((2 : Int) ^ (Min.min (Int.toNat (1 : Int)) (IntKind.bits IntKind.u64)))))))
 (Option.bind x2.1[(Int.toNat (IntKind.wrap IntKind.i64 (Int.fdiv (IntKind.wrap IntKind.u64 (IntKind.wrap IntKind.i64 (x2.2.2.2.1 + x2.2.2.2.2.1))) ((2 : Int) ^ (Min.min (Int.toNat (1 : Int)) (IntKind.bits IntKind.u64))))))]? fun y4 =>
 (Option.bind (F217 y4 x2.2.1) fun y5 =>
 (cond (decide (y5.1 < (0 : Int)))
 (rec (x2.1, x2.2.1, x2.2.2.1, (IntKind.wrap IntKind.i64 ((IntKind.wrap IntKind.i64 (Int.fdiv (IntKind.wrap IntKind.u64 (IntKind.wrap IntKind.i64 (x2.2.2.2.1 + x2.2.2.2.2.1))) ((2 : Int) ^ (Min.min (Int.toNat (1 : Int)) (IntKind.bits IntKind.u64))))) + (1 : Int))), x2.2.2.2.2.1, ()))
 (rec (x2.1, x2.2.1, x2.2.2.1, x2.2.2.2.1, (IntKind.wrap IntKind.i64 (Int.fdiv (IntKind.wrap IntKind.u64 (IntKind.wrap IntKind.i64 (x2.2.2.2.1 + x2.2.2.2.2.1))) ((2 : Int) ^ (Min.min (Int.toNat (1 : Int)) (IntKind.bits IntKind.u64))))), ()))))))
 (e0_0 (x2.1, x2.2.1, x2.2.2.1, x2.2.2.2.1, ())))
noncomputable def F216 (a0 : List (D251)) (a1 : List UInt8) (a2 : Unit) : Option (Int × Bool × Unit) :=
 (iter (F216_R3
 (fun y6 =>
 (cond (decide (y6.2.2.2.1 < y6.2.2.1))
 (gd (decide ((0 : Int) ≤ y6.2.2.2.1))
 (Option.bind y6.1[(Int.toNat y6.2.2.2.1)]? fun y7 =>
 (Option.bind (F217 y7 y6.2.1) fun y8 =>
 (some (y6.2.2.2.1, ((y8.1 == (0 : Int)), ()))))))
 (some (y6.2.2.2.1, (false, ())))))) fuel (a0, a1, (((List.length a0) : Nat) : Int), (0 : Int), (((List.length a0) : Nat) : Int), ()))
noncomputable def C216 : Fun := ⟨[(.ro (.slice Y251)), (.ro .str), (.st 217)], [((.int .i64), .z), (.bool, .z)], fun z => F216 z.1 z.2.1 z.2.2.1⟩
noncomputable def E216 : Env := ⟨49, tyTab tys, oneTab ones, fnTab [(217, C217)], false, [], [(3, [0, 1, 2, 8, 9, 10], []), (4, [0, 1, 2, 8, 9, 10], []), (8, [0, 1, 2, 8, 9], []), (100000, [0, 1, 2, 8, 9], []), (100001, [0, 1, 2, 8, 9, 10], []), (99999, [6, 7], [])], none, []⟩
noncomputable def L216 : List (LoopS (Int × Bool × Unit)) := [⟨3, ⟨[(0, (.pv (.slice Y251))), (1, (.pv .str)), (2, (.clo 217 [])), (8, (.pv (.int .i64))), (9, (.pv (.int .i64))), (10, (.pv (.int .i64)))], []⟩, fun κ => F216_R3 (fun y => κ.exit 0 (SSh.mk' ⟨[(0, (.pv (.slice Y251))), (1, (.pv .str)), (2, (.clo 217 [])), (8, (.pv (.int .i64))), (9, (.pv (.int .i64)))], []⟩ y))⟩]
theorem L216_3 : RoundEq E216 L216 L216[0] (nthLoop (codeOf Tryz.f216) 0) := fun κ N x => by kernel_rfl
theorem C216_ok : QuietOk Tryz.prog 216 C216 := tQ E216 L216 [nthLoop (codeOf Tryz.f216) 0] Tryz.func216 ty_ok (.cons C217_ok .nil) (.cons L216[0] (by kernel_rfl) L216_3 .nil)
noncomputable def F202 (a0 : List (D251)) (a1 : List UInt8) : Option (Int × Bool × Unit) :=
 (Option.bind (F216 a0 a1 ()) fun y0 =>
 (some (y0.1, (y0.2.1, ()))))
noncomputable def C202 : Fun := ⟨[(.ro (.slice Y251)), (.ro .str)], [((.int .i64), .z), (.bool, .z)], fun z => F202 z.1 z.2.1⟩
noncomputable def E202 : Env := ⟨11, tyTab tys, oneTab ones, fnTab [(216, C216), (217, C217)], false, [], [(99999, [4, 5], [])], none, []⟩
noncomputable def L202 : List (LoopS (Int × Bool × Unit)) := []
theorem C202_ok : QuietOk Tryz.prog 202 C202 := tQ E202 L202 [] Tryz.func202 ty_ok (.cons C216_ok (.cons C217_ok .nil)) .nil
noncomputable def F186 (a0 : D83) (a1 : List UInt8) : Option (D83 × Bool × Unit) :=
 (Option.bind (F201 a0) fun y0 =>
 (Option.bind (F202 y0.1 a1) fun y1 =>
 (cond (!y1.2.1)
 (some (((0 : Int), ((0 : Int), ([], ()))), (false, ())))
 (gd (decide ((0 : Int) ≤ y1.1))
 (Option.bind y0.1[(Int.toNat y1.1)]? fun y3 =>
 (some (y3.2.1, (true, ()))))))))
noncomputable def C186 : Fun := ⟨[(.ro Y83), (.ro .str)], [(Y83, .z), (.bool, .z)], fun z => F186 z.1 z.2.1⟩
noncomputable def E186 : Env := ⟨29, tyTab tys, oneTab ones, fnTab [(201, C201), (202, C202)], false, [], [(5, [4, 6, 8], []), (99999, [4, 5], [])], none, []⟩
noncomputable def L186 : List (LoopS (D83 × Bool × Unit)) := []
theorem C186_ok : QuietOk Tryz.prog 186 C186 := tQ E186 L186 [] Tryz.func186 ty_ok (.cons C201_ok (.cons C202_ok .nil)) .nil
noncomputable def F166 (a0 : D83) : Option (Int × Bool × Unit) :=
 (Option.bind (F186 a0 [(105 : UInt8), (100 : UInt8)]) fun y0 =>
 (cond (y0.1.1 == (2 : Int))
 (Option.bind (F40 y0.1.2.1 (0 : Int) (99 : Int)) fun y1 =>
 (some (y0.1.2.1, (y1.1, ()))))
 (some (y0.1.2.1, (false, ())))))
noncomputable def C166 : Fun := ⟨[(.ro Y83)], [((.int .i64), .z), (.bool, .z)], fun z => F166 z.1⟩
noncomputable def E166 : Env := ⟨21, tyTab tys, oneTab ones, fnTab [(40, C40), (186, C186)], false, [], [(99999, [2, 3], [])], none, []⟩
noncomputable def L166 : List (LoopS (Int × Bool × Unit)) := []
theorem C166_ok : QuietOk Tryz.prog 166 C166 := tQ E166 L166 [] Tryz.func166 ty_ok (.cons C40_ok (.cons C186_ok .nil)) .nil
noncomputable def F218 (a0 : Int) : Option (Bool × Unit) :=
 (Option.bind (F40 a0 (-(1000000000000 : Int)) (1000000000000 : Int)) fun y0 =>
 (some (y0.1, ())))
noncomputable def C218 : Fun := ⟨[(.ro (.int .i64))], [(.bool, .z)], fun z => F218 z.1⟩
noncomputable def E218 : Env := ⟨5, tyTab tys, oneTab ones, fnTab [(40, C40)], false, [], [(99999, [2], [])], none, []⟩
noncomputable def L218 : List (LoopS (Bool × Unit)) := []
theorem C218_ok : QuietOk Tryz.prog 218 C218 := tQ E218 L218 [] Tryz.func218 ty_ok (.cons C40_ok .nil) .nil
noncomputable def F229_R2 (e0_0 : D190 × List (D83) × Unit → Option (List (D83) × Bool × Unit)) (rec : D190 × List (D83) × Unit → Option (List (D83) × Bool × Unit)) (x2 : D190 × List (D83) × Unit) : Option (List (D83) × Bool × Unit) :=
 (cond (!(x2.1.1 == []))
 (cond (!x2.1.2.1)
 (Option.bind (F215 x2.1) fun y4 =>
 (gd (decide (((List.length x2.2.1) + (List.length [y4.1])) ≤ lim))
 (rec (y4.2.1, (x2.2.1 ++ [y4.1]), ()))))
 (e0_0 (x2.1, x2.2.1, ())))
 (e0_0 (x2.1, x2.2.1, ())))
noncomputable def F229 (a0 : D83) : Option (List (D83) × Bool × Unit) :=
 (iter (F229_R2
 (fun y5 =>
 (some (y5.2.1, ((!y5.1.2.1), ()))))) fuel ((a0.2.2.1, (false, ())), [], ()))
noncomputable def C229 : Fun := ⟨[(.ro Y83)], [((.slice Y83), .z), (.bool, .z)], fun z => F229 z.1⟩
noncomputable def E229 : Env := ⟨34, tyTab tys, oneTab ones, fnTab [(215, C215)], false, [], [(2, [4, 5], []), (3, [4, 5], []), (4, [4, 5], []), (100000, [4, 5], []), (100001, [4, 5], []), (99999, [2, 3], [])], none, []⟩
noncomputable def L229 : List (LoopS (List (D83) × Bool × Unit)) := [⟨2, ⟨[(4, (.ptr 72 [])), (5, (.ref (.slice Y83) 80 []))], [(72, (.data true Y190 .z)), (80, (.data false (.slice Y83) (.own .z)))]⟩, fun κ => F229_R2 (fun y => κ.exit 0 (SSh.mk' ⟨[(4, (.ptr 72 [])), (5, (.ref (.slice Y83) 80 []))], [(72, (.data true Y190 .z)), (80, (.data false (.slice Y83) (.own .z)))]⟩ y))⟩]
theorem L229_2 : RoundEq E229 L229 L229[0] (nthLoop (codeOf Tryz.f229) 0) := fun κ N x => by kernel_rfl
theorem C229_ok : QuietOk Tryz.prog 229 C229 := tQ E229 L229 [nthLoop (codeOf Tryz.f229) 0] Tryz.func229 ty_ok (.consIo C215_ok .nil) (.cons L229[0] (by kernel_rfl) L229_2 .nil)
noncomputable def F219_R6 (e0_0 : Bool × List (D83) × Unit → Option (List (D83) × Bool × Unit)) (rec : List (D251) × Bool × List (D251) × Int × Int × List (D83) × Unit → Option (List (D83) × Bool × Unit)) (x5 : List (D251) × Bool × List (D251) × Int × Int × List (D83) × Unit) : Option (List (D83) × Bool × Unit) :=
 (cond (decide (x5.2.2.2.2.1 < x5.2.2.2.1))
 (gd (decide ((0 : Int) ≤ x5.2.2.2.2.1))
 (Option.bind x5.2.2.1[(Int.toNat x5.2.2.2.2.1)]? fun y7 =>
 (cond x5.2.1
 (Option.bind (F101 y7.1) fun y8 =>
 (cond y8.1
 (cond (x5.2.2.2.2.1 == (0 : Int))
 (gd (decide (((List.length x5.2.2.2.2.2.1) + (List.length [y7.2.1])) ≤ lim))
 (rec (x5.1, true, x5.2.2.1, x5.2.2.2.1, (IntKind.wrap IntKind.i64 (x5.2.2.2.2.1 + (1 : Int))), (x5.2.2.2.2.2.1 ++ [y7.2.1]), ())))
 (gd (decide ((0 : Int) ≤ (IntKind.wrap IntKind.i64 (x5.2.2.2.2.1 - (1 : Int)))))
 (Option.bind x5.1[(Int.toNat (IntKind.wrap IntKind.i64 (x5.2.2.2.2.1 - (1 : Int))))]? fun y9 =>
 (gd (decide (((List.length x5.2.2.2.2.2.1) + (List.length [y7.2.1])) ≤ lim))
 (rec (x5.1, (Op.bytesLess y9.1 y7.1), x5.2.2.1, x5.2.2.2.1, (IntKind.wrap IntKind.i64 (x5.2.2.2.2.1 + (1 : Int))), (x5.2.2.2.2.2.1 ++ [y7.2.1]), ()))))))
 (gd (decide (((List.length x5.2.2.2.2.2.1) + (List.length [y7.2.1])) ≤ lim))
 (rec (x5.1, false, x5.2.2.1, x5.2.2.2.1, (IntKind.wrap IntKind.i64 (x5.2.2.2.2.1 + (1 : Int))), (x5.2.2.2.2.2.1 ++ [y7.2.1]), ())))))
 (gd (decide (((List.length x5.2.2.2.2.2.1) + (List.length [y7.2.1])) ≤ lim))
 (rec (x5.1, false, x5.2.2.1, x5.2.2.2.1, (IntKind.wrap IntKind.i64 (x5.2.2.2.2.1 + (1 : Int))), (x5.2.2.2.2.2.1 ++ [y7.2.1]), ()))))))
 (e0_0 (x5.2.1, x5.2.2.2.2.2.1, ())))
noncomputable def F219 (a0 : D83) : Option (List (D83) × Bool × Unit) :=
 (cond (a0.1 == (4 : Int))
 (Option.bind (F229 a0) fun y1 =>
 (some (y1.1, (y1.2.1, ()))))
 (Option.bind (F201 a0) fun y2 =>
 (iter (F219_R6
 (fun y10 =>
 (some (y10.2.1, (y10.1, ()))))) fuel (y2.1, y2.2.1, y2.1, (((List.length y2.1) : Nat) : Int), (0 : Int), [], ()))))
noncomputable def C219 : Fun := ⟨[(.ro Y83)], [((.slice Y83), .z), (.bool, .z)], fun z => F219 z.1⟩
noncomputable def E219 : Env := ⟨58, tyTab tys, oneTab ones, fnTab [(101, C101), (201, C201), (229, C229)], false, [], [(3, [1], []), (6, [4, 5, 6, 22, 23, 24], []), (7, [4, 5, 6, 22, 23, 24], []), (11, [5, 6], []), (100000, [5, 6], []), (100001, [4, 5, 6, 22, 23, 24], []), (99999, [2, 3], [])], none, []⟩
noncomputable def L219 : List (LoopS (List (D83) × Bool × Unit)) := [⟨6, ⟨[(4, (.pv (.slice Y251))), (5, (.pv .bool)), (6, (.ref (.slice Y83) 168 [])), (22, (.pv (.slice Y251))), (23, (.pv (.int .i64))), (24, (.pv (.int .i64)))], [(168, (.data false (.slice Y83) (.own .z)))]⟩, fun κ => F219_R6 (fun y => κ.exit 0 (SSh.mk' ⟨[(5, (.pv .bool)), (6, (.ref (.slice Y83) 168 []))], [(168, (.data false (.slice Y83) (.own .z)))]⟩ y))⟩]
theorem L219_6 : RoundEq E219 L219 L219[0] (nthLoop (codeOf Tryz.f219) 0) := fun κ N x => by kernel_rfl
theorem C219_ok : QuietOk Tryz.prog 219 C219 := tQ E219 L219 [nthLoop (codeOf Tryz.f219) 0] Tryz.func219 ty_ok (.cons C101_ok (.cons C201_ok (.cons C229_ok .nil))) (.cons L219[0] (by kernel_rfl) L219_6 .nil)
noncomputable def F230_R2 (e0_0 : Unit → Option (Int × Unit)) (er_1 : Int × Unit → Option (Int × Unit)) (rec : List (D83) × (D83 → Option (Bool)) × Int × Int × Unit → Option (Int × Unit)) (x2 : List (D83) × (D83 → Option (Bool)) × Int × Int × Unit) : Option (Int × Unit) :=
 (cond (decide (x2.2.2.2.1 < x2.2.2.1))
 (gd (decide ((0 : Int) ≤ x2.2.2.2.1))
 (Option.bind x2.1[(Int.toNat x2.2.2.2.1)]? fun y5 =>
 (Option.bind (x2.2.1 y5) fun y6 =>
 (cond y6
 (er_1 (x2.2.2.2.1, ()))
 (rec (x2.1, x2.2.1, x2.2.2.1, (IntKind.wrap IntKind.i64 (x2.2.2.2.1 + (1 : Int))), ()))))))
 (e0_0 (())))
noncomputable def F230 (a0 : List (D83)) (a1 : (D83 → Option (Bool))) : Option (Int × Unit) :=
 (iter (F230_R2
 (fun y7 =>
 (some ((-(1 : Int)), ())))
 (fun y8 =>
 (some (y8.1, ())))) fuel (a0, a1, (((List.length a0) : Nat) : Int), (0 : Int), ()))
noncomputable def C230 : Fun := ⟨[(.ro (.slice Y83)), (.fn Y83 .bool)], [((.int .i64), .z)], fun z => F230 z.1 z.2.1⟩
noncomputable def E230 : Env := ⟨19, tyTab tys, oneTab ones, fnTab [], false, [], [(2, [0, 1, 7, 8], []), (3, [0, 1, 7, 8], []), (6, [0, 1, 7, 8], []), (7, [], []), (100000, [], []), (100001, [0, 1, 7, 8], []), (99999, [4], [])], none, []⟩
noncomputable def L230 : List (LoopS (Int × Unit)) := [⟨2, ⟨[(0, (.pv (.slice Y83))), (1, (.fnA Y83 .bool)), (7, (.pv (.int .i64))), (8, (.pv (.int .i64)))], []⟩, fun κ => F230_R2 (fun y => κ.exit 0 (SSh.mk' ⟨[], []⟩ y)) (fun y => κ.ret (SSh.mk' ⟨[(4, (.pv (.int .i64)))], []⟩ y))⟩]
theorem L230_2 : RoundEq E230 L230 L230[0] (nthLoop (codeOf Tryz.f230) 0) := fun κ N x => by kernel_rfl
theorem C230_ok : QuietOk Tryz.prog 230 C230 := tQ E230 L230 [nthLoop (codeOf Tryz.f230) 0] Tryz.func230 ty_ok .nil (.cons L230[0] (by kernel_rfl) L230_2 .nil)
noncomputable def F220 (a0 : List (D83)) (a1 : (D83 → Option (Bool))) : Option (Bool × Unit) :=
 (Option.bind (F230 a0 a1) fun y0 =>
 (some ((decide (y0.1 ≥ (0 : Int))), ())))
noncomputable def C220 : Fun := ⟨[(.ro (.slice Y83)), (.fn Y83 .bool)], [(.bool, .z)], fun z => F220 z.1 z.2.1⟩
noncomputable def E220 : Env := ⟨9, tyTab tys, oneTab ones, fnTab [(230, C230)], false, [], [(99999, [4], [])], none, []⟩
noncomputable def L220 : List (LoopS (Bool × Unit)) := []
theorem C220_ok : QuietOk Tryz.prog 220 C220 := tQ E220 L220 [] Tryz.func220 ty_ok (.cons C230_ok .nil) .nil
abbrev G203 : Type := (D83) → (Int) → Option (Bool × Unit)
noncomputable def H203 (g : G203) : Fun := ⟨[(.ro Y83), (.ro (.int .i64))], [(.bool, .z)], fun z => g z.1 z.2.1⟩
noncomputable def B221 (g : G203) (a0 : D83) (a1 : Int) : Option (Bool × Unit) :=
 (Option.bind (g a0 (IntKind.wrap IntKind.i64 (a1 - (1 : Int)))) fun y0 =>
 (some ((!y0.1), ())))
noncomputable def K221 (g : G203) : Fun := ⟨[(.ro Y83), (.rp (.int .i64))], [(.bool, .z)], fun z => B221 g z.1 z.2.1⟩
noncomputable def E221 (g : G203) : Env := ⟨9, tyTab tys, oneTab ones, fnTab [(203, (H203 g))], false, [], [(99999, [3], [])], none, []⟩
noncomputable def L221 (g : G203) : List (LoopS (Bool × Unit)) := []
theorem K221_ok (g : G203) (hg : QuietOk Tryz.prog 203 (H203 g)) : QuietOk Tryz.prog 221 (K221 g) := tQ (E221 g) (L221 g) [] Tryz.func221 ty_ok (.cons hg .nil) .nil
noncomputable def B203 (g : G203) (a0 : D83) (a1 : Int) : Option (Bool × Unit) :=
 (let j8 : Unit → Option (Bool × Unit) := fun (y9 : Unit) =>
 (some (false, ()))
 (cond (a0.1 == (0 : Int))
 (some (((decide (a0.1 = (0 : Int))) && ((decide (a0.2.1 = (0 : Int))) && ((a0.2.2.1 == []) && true))), ()))
 (cond (a0.1 == (1 : Int))
 (Option.bind (F40 a0.2.1 (0 : Int) (1 : Int)) fun y1 =>
 (cond y1.1
 (some ((a0.2.2.1 == []), ()))
 (some (false, ()))))
 (cond (a0.1 == (2 : Int))
 (Option.bind (F218 a0.2.1) fun y2 =>
 (cond y2.1
 (some ((a0.2.2.1 == []), ()))
 (some (false, ()))))
 (cond (a0.1 == (3 : Int))
 (cond (a0.2.1 == (0 : Int))
 (some ((decide ((((List.length a0.2.2.1) : Nat) : Int) ≤ (300 : Int))), ()))
 (some (false, ())))
 (cond (a0.1 == (4 : Int))
 (cond (a0.1 == (4 : Int))
 (Option.bind (F219 a0) fun y4 =>
 (cond (a0.2.1 == (0 : Int))
 (cond (decide ((((List.length a0.2.2.1) : Nat) : Int) ≤ (300 : Int)))
 (cond (decide (a1 > (0 : Int)))
 (cond y4.2.1
 (Option.bind (F220 y4.1 (fun (v6 : D83) => (Option.map (fun (v7 : (Bool × Unit)) => v7.1) (B221 g v6 a1)))) fun y5 =>
 (some ((!y5.1), ())))
 (some (false, ())))
 (some (false, ())))
 (some (false, ())))
 (some (false, ()))))
 (j8 (())))
 (cond (a0.1 == (5 : Int))
 (Option.bind (F219 a0) fun y6 =>
 (cond (a0.2.1 == (0 : Int))
 (cond (decide ((((List.length a0.2.2.1) : Nat) : Int) ≤ (300 : Int)))
 (cond (decide (a1 > (0 : Int)))
 (cond y6.2.1
 (Option.bind (F220 y6.1 (fun (v6 : D83) => (Option.map (fun (v7 : (Bool × Unit)) => v7.1) (B221 g v6 a1)))) fun y7 =>
 (some ((!y7.1), ())))
 (some (false, ())))
 (some (false, ())))
 (some (false, ())))
 (some (false, ()))))
 (j8 (())))))))))
noncomputable def K203 (g : G203) : Fun := ⟨[(.ro Y83), (.ro (.int .i64))], [(.bool, .z)], fun z => B203 g z.1 z.2.1⟩
noncomputable def E203 (g : G203) : Env := ⟨75, tyTab tys, oneTab ones, fnTab [(40, C40), (218, C218), (219, C219), (220, C220), (221, (K221 g))], false, [], [(14, [], []), (100000, [], []), (99999, [4], [])], none, []⟩
noncomputable def L203 (g : G203) : List (LoopS (Bool × Unit)) := []
theorem K203_ok (g : G203) (hg : QuietOk Tryz.prog 203 (H203 g)) : QuietOk Tryz.prog 203 (K203 g) := tQ (E203 g) (L203 g) [] Tryz.func203 ty_ok (.cons C40_ok (.cons C218_ok (.cons C219_ok (.cons C220_ok (.cons (K221_ok g hg) .nil))))) .nil
noncomputable def S203 : Nat → G203
  | 0 => fun _ _ => none
  | k + 1 => B203 (S203 k)
noncomputable def F203 : G203 := S203 fuel
noncomputable def C203 : Fun := H203 F203
theorem C203_all : ∀ k, QuietOk Tryz.prog 203 (H203 (S203 k))
  | 0 => QuietOk.none Tryz.func203 (by rfl) (by decide) fun _ => rfl
  | k + 1 => K203_ok (S203 k) (C203_all k)
theorem C203_ok : QuietOk Tryz.prog 203 C203 := C203_all fuel
noncomputable def F187 (a0 : D83) : Option (Bool × Unit) :=
 (Option.bind (F203 a0 (5 : Int)) fun y0 =>
 (some (y0.1, ())))
noncomputable def C187 : Fun := ⟨[(.ro Y83)], [(.bool, .z)], fun z => F187 z.1⟩
noncomputable def E187 : Env := ⟨5, tyTab tys, oneTab ones, fnTab [(203, C203)], false, [], [(99999, [2], [])], none, []⟩
noncomputable def L187 : List (LoopS (Bool × Unit)) := []
theorem C187_ok : QuietOk Tryz.prog 187 C187 := tQ E187 L187 [] Tryz.func187 ty_ok (.cons C203_ok .nil) .nil
noncomputable def F167 (a0 : D83) : Option (Bool × Unit) :=
 (cond (a0.1 == (5 : Int))
 (Option.bind (F187 a0) fun y0 =>
 (some (y0.1, ())))
 (some (false, ())))
noncomputable def C167 : Fun := ⟨[(.ro Y83)], [(.bool, .z)], fun z => F167 z.1⟩
noncomputable def E167 : Env := ⟨10, tyTab tys, oneTab ones, fnTab [(187, C187)], false, [], [(99999, [2], [])], none, []⟩
noncomputable def L167 : List (LoopS (Bool × Unit)) := []
theorem C167_ok : QuietOk Tryz.prog 167 C167 := tQ E167 L167 [] Tryz.func167 ty_ok (.cons C187_ok .nil) .nil
noncomputable def F139 (a0 : Bool) (a1 : D83) (a2 : Int) : Option (Bool × Unit) :=
 (cond a0
 (some (((decide (a1.1 = (0 : Int))) && ((decide (a1.2.1 = (0 : Int))) && ((a1.2.2.1 == []) && true))), ()))
 (Option.bind (F166 a1) fun y1 =>
 (Option.bind (F167 a1) fun y2 =>
 (cond y2.1
 (cond y1.2.1
 (some ((y1.1 == a2), ()))
 (some (false, ())))
 (some (false, ()))))))
noncomputable def C139 : Fun := ⟨[(.ro .bool), (.ro Y83), (.ro (.int .i64))], [(.bool, .z)], fun z => F139 z.1 z.2.1 z.2.2.1⟩
noncomputable def E139 : Env := ⟨28, tyTab tys, oneTab ones, fnTab [(166, C166), (167, C167)], false, [], [(3, [2, 4], []), (99999, [6], [])], none, []⟩
noncomputable def L139 : List (LoopS (Bool × Unit)) := []
theorem C139_ok : QuietOk Tryz.prog 139 C139 := tQ E139 L139 [] Tryz.func139 ty_ok (.cons C166_ok (.cons C167_ok .nil)) .nil
noncomputable def F100_R2 (e0_0 : D81 × Unit → Option (Bool × Unit)) (er_1 : Bool × Unit → Option (Bool × Unit)) (rec : List (D85) × Int × Int × D81 × Unit → Option (Bool × Unit)) (x2 : List (D85) × Int × Int × D81 × Unit) : Option (Bool × Unit) :=
 (cond (decide (x2.2.2.1 < x2.2.1))
 (let j10 : List (D85) × Int × Int × D81 × Unit → Option (Bool × Unit) := fun (y11 : List (D85) × Int × Int × D81 × Unit) =>
 (rec (y11.1, y11.2.1, (IntKind.wrap IntKind.i64 (y11.2.2.1 + (1 : Int))), y11.2.2.2.1, ()))
 (gd (decide ((0 : Int) ≤ x2.2.2.1))
 (Option.bind x2.1[(Int.toNat x2.2.2.1)]? fun y5 =>
 (Option.bind (F105 y5.1) fun y6 =>
 (cond (!y6.1)
 (er_1 (false, ()))
 (cond (decide (x2.2.2.1 > (0 : Int)))
 (gd (decide ((0 : Int) ≤ (IntKind.wrap IntKind.i64 (x2.2.2.1 - (1 : Int)))))
 (Option.bind x2.2.2.2.1.2.1[(Int.toNat (IntKind.wrap IntKind.i64 (x2.2.2.1 - (1 : Int))))]? fun y7 =>
 (cond (decide (y7.1 ≥ y5.1))
 (er_1 (false, ()))
 (Option.bind (F139 y5.2.1 y5.2.2.1 x2.2.2.2.1.1) fun y8 =>
 (cond (!y8.1)
 (er_1 (false, ()))
 (j10 (x2.1, x2.2.1, x2.2.2.1, x2.2.2.2.1, ())))))))
 (Option.bind (F139 y5.2.1 y5.2.2.1 x2.2.2.2.1.1) fun y9 =>
 (cond (!y9.1)
 (er_1 (false, ()))
 (j10 (x2.1, x2.2.1, x2.2.2.1, x2.2.2.2.1, ()))))))))))
 (e0_0 (x2.2.2.2.1, ())))
noncomputable def F100 (a0 : D81) : Option (Bool × Unit) :=
 (iter (F100_R2
 (fun y12 =>
 (Option.bind (F40 y12.1.1 (0 : Int) (19 : Int)) fun y14 =>
 (cond y14.1
 (Option.bind (F40 (((List.length y12.1.2.1) : Nat) : Int) (1 : Int) (12 : Int)) fun y15 =>
 (some (y15.1, ())))
 (some (false, ())))))
 (fun y13 =>
 (some (y13.1, ())))) fuel (a0.2.1, (((List.length a0.2.1) : Nat) : Int), (0 : Int), a0, ()))
noncomputable def C100 : Fun := ⟨[(.ro Y81)], [(.bool, .z)], fun z => F100 z.1⟩
noncomputable def E100 : Env := ⟨53, tyTab tys, oneTab ones, fnTab [(40, C40), (105, C105), (139, C139)], false, [], [(2, [1, 6, 7, 8], []), (3, [1, 6, 7, 8], []), (6, [1, 6, 7, 8], []), (7, [1], []), (100000, [1], []), (100001, [1, 6, 7, 8], []), (99999, [2], [])], none, []⟩
noncomputable def L100 : List (LoopS (Bool × Unit)) := [⟨2, ⟨[(1, (.ptr 8 [])), (6, (.pv (.slice Y85))), (7, (.pv (.int .i64))), (8, (.pv (.int .i64)))], [(8, (.data true Y81 .z))]⟩, fun κ => F100_R2 (fun y => κ.exit 0 (SSh.mk' ⟨[(1, (.ptr 8 []))], [(8, (.data true Y81 .z))]⟩ y)) (fun y => κ.ret (SSh.mk' ⟨[(2, (.pv .bool))], []⟩ y))⟩]
theorem L100_2 : RoundEq E100 L100 L100[0] (nthLoop (codeOf Tryz.f100) 0) := fun κ N x => by kernel_rfl
theorem C100_ok : QuietOk Tryz.prog 100 C100 := tQ E100 L100 [nthLoop (codeOf Tryz.f100) 0] Tryz.func100 ty_ok (.cons C40_ok (.cons C105_ok (.cons C139_ok .nil))) (.cons L100[0] (by kernel_rfl) L100_2 .nil)
noncomputable def F68_R2 (e0_0 : D62 × Unit → Option (Bool × Unit)) (er_1 : Bool × Unit → Option (Bool × Unit)) (rec : List (D138) × Int × Int × D62 × Unit → Option (Bool × Unit)) (x2 : List (D138) × Int × Int × D62 × Unit) : Option (Bool × Unit) :=
 (cond (decide (x2.2.2.1 < x2.2.1))
 (gd (decide ((0 : Int) ≤ x2.2.2.1))
 (Option.bind x2.1[(Int.toNat x2.2.2.1)]? fun y5 =>
 (Option.bind (F98 y5) fun y6 =>
 (cond (!y6.1)
 (er_1 (false, ()))
 (Option.bind (F99 x2.2.2.2.1 y5.1) fun y7 =>
 (cond (decide (y7.1 < x2.2.2.1))
 (er_1 (false, ()))
 (rec (x2.1, x2.2.1, (IntKind.wrap IntKind.i64 (x2.2.2.1 + (1 : Int))), x2.2.2.2.1, ()))))))))
 (e0_0 (x2.2.2.2.1, ())))
noncomputable def F68_R8 (e2_0 : D62 × Unit → Option (Bool × Unit)) (er_1 : Bool × Unit → Option (Bool × Unit)) (rec : List (D81) × Int × Int × D62 × Unit → Option (Bool × Unit)) (x12 : List (D81) × Int × Int × D62 × Unit) : Option (Bool × Unit) :=
 (cond (decide (x12.2.2.1 < x12.2.1))
 (let j18 : List (D81) × Int × Int × D62 × Unit → Option (Bool × Unit) := fun (y19 : List (D81) × Int × Int × D62 × Unit) =>
 (rec (y19.1, y19.2.1, (IntKind.wrap IntKind.i64 (y19.2.2.1 + (1 : Int))), y19.2.2.2.1, ()))
 (gd (decide ((0 : Int) ≤ x12.2.2.1))
 (Option.bind x12.1[(Int.toNat x12.2.2.1)]? fun y15 =>
 (Option.bind (F100 y15) fun y16 =>
 (cond (!y16.1)
 (er_1 (false, ()))
 (cond (decide (x12.2.2.1 > (0 : Int)))
 (gd (decide ((0 : Int) ≤ (IntKind.wrap IntKind.i64 (x12.2.2.1 - (1 : Int)))))
 (Option.bind x12.2.2.2.1.2.1[(Int.toNat (IntKind.wrap IntKind.i64 (x12.2.2.1 - (1 : Int))))]? fun y17 =>
 (cond (decide (y17.1 ≥ y15.1))
 (er_1 (false, ()))
 (j18 (x12.1, x12.2.1, x12.2.2.1, x12.2.2.2.1, ())))))
 (j18 (x12.1, x12.2.1, x12.2.2.1, x12.2.2.2.1, ()))))))))
 (e2_0 (x12.2.2.2.1, ())))
noncomputable def F68 (a0 : D62) : Option (Bool × Unit) :=
 (iter (F68_R2
 (fun y8 =>
 (iter (F68_R8
 (fun y20 =>
 (Option.bind (F101 y20.1.1) fun y22 =>
 (cond y22.1
 (some ((decide ((((List.length y20.1.2.2.1) : Nat) : Int) ≤ (3 : Int))), ()))
 (some (false, ())))))
 (fun y21 =>
 (some (y21.1, ())))) fuel (y8.1.2.1, (((List.length y8.1.2.1) : Nat) : Int), (0 : Int), y8.1, ())))
 (fun y9 =>
 (some (y9.1, ())))) fuel (a0.2.2.1, (((List.length a0.2.2.1) : Nat) : Int), (0 : Int), a0, ()))
noncomputable def C68 : Fun := ⟨[(.ro Y62)], [(.bool, .z)], fun z => F68 z.1⟩
noncomputable def E68 : Env := ⟨64, tyTab tys, oneTab ones, fnTab [(98, C98), (99, C99), (100, C100), (101, C101)], false, [], [(2, [1, 8, 9, 10], []), (3, [1, 8, 9, 10], []), (6, [1, 8, 9, 10], []), (7, [1], []), (8, [1, 28, 29, 30], []), (9, [1, 28, 29, 30], []), (12, [1, 28, 29, 30], []), (13, [1], []), (100000, [1], []), (100001, [1, 8, 9, 10], []), (100002, [1], []), (100003, [1, 28, 29, 30], []), (99999, [2], [])], none, []⟩
noncomputable def L68 : List (LoopS (Bool × Unit)) := [⟨2, ⟨[(1, (.ptr 8 [])), (8, (.pv (.slice Y138))), (9, (.pv (.int .i64))), (10, (.pv (.int .i64)))], [(8, (.data true Y62 .z))]⟩, fun κ => F68_R2 (fun y => κ.exit 0 (SSh.mk' ⟨[(1, (.ptr 8 []))], [(8, (.data true Y62 .z))]⟩ y)) (fun y => κ.ret (SSh.mk' ⟨[(2, (.pv .bool))], []⟩ y))⟩,
  ⟨8, ⟨[(1, (.ptr 8 [])), (28, (.pv (.slice Y81))), (29, (.pv (.int .i64))), (30, (.pv (.int .i64)))], [(8, (.data true Y62 .z))]⟩, fun κ => F68_R8 (fun y => κ.exit 2 (SSh.mk' ⟨[(1, (.ptr 8 []))], [(8, (.data true Y62 .z))]⟩ y)) (fun y => κ.ret (SSh.mk' ⟨[(2, (.pv .bool))], []⟩ y))⟩]
theorem L68_8 : RoundEq E68 L68 L68[1] (nthLoop (codeOf Tryz.f68) 1) := fun κ N x => by kernel_rfl
theorem L68_2 : RoundEq E68 L68 L68[0] (nthLoop (codeOf Tryz.f68) 0) := fun κ N x => by kernel_rfl
theorem C68_ok : QuietOk Tryz.prog 68 C68 := tQ E68 L68 [nthLoop (codeOf Tryz.f68) 0, nthLoop (codeOf Tryz.f68) 1] Tryz.func68 ty_ok (.cons C98_ok (.cons C99_ok (.cons C100_ok (.cons C101_ok .nil)))) (.cons L68[0] (by kernel_rfl) L68_2 (.cons L68[1] (by kernel_rfl) L68_8 .nil))
noncomputable def F38_R2 (e0_0 : List (D62) × Unit → Option (Bool × Unit)) (er_1 : Bool × Unit → Option (Bool × Unit)) (rec : List (D62) × List (D62) × Int × Int × Unit → Option (Bool × Unit)) (x2 : List (D62) × List (D62) × Int × Int × Unit) : Option (Bool × Unit) :=
 (cond (decide (x2.2.2.2.1 < x2.2.2.1))
 (let j8 : List (D62) × List (D62) × Int × Int × Unit → Option (Bool × Unit) := fun (y9 : List (D62) × List (D62) × Int × Int × Unit) =>
 (rec (y9.1, y9.2.1, y9.2.2.1, (IntKind.wrap IntKind.i64 (y9.2.2.2.1 + (1 : Int))), ()))
 (gd (decide ((0 : Int) ≤ x2.2.2.2.1))
 (Option.bind x2.2.1[(Int.toNat x2.2.2.2.1)]? fun y5 =>
 (Option.bind (F68 y5) fun y6 =>
 (cond (!y6.1)
 (er_1 (false, ()))
 (cond (decide (x2.2.2.2.1 > (0 : Int)))
 (gd (decide ((0 : Int) ≤ (IntKind.wrap IntKind.i64 (x2.2.2.2.1 - (1 : Int)))))
 (Option.bind x2.1[(Int.toNat (IntKind.wrap IntKind.i64 (x2.2.2.2.1 - (1 : Int))))]? fun y7 =>
 (cond (!(Op.bytesLess y7.1 y5.1))
 (er_1 (false, ()))
 (j8 (x2.1, x2.2.1, x2.2.2.1, x2.2.2.2.1, ())))))
 (j8 (x2.1, x2.2.1, x2.2.2.1, x2.2.2.2.1, ()))))))))
 (e0_0 (x2.1, ())))
noncomputable def F38 (a0 : List (D62)) : Option (Bool × Unit) :=
 (iter (F38_R2
 (fun y10 =>
 (some ((decide ((((List.length y10.1) : Nat) : Int) ≤ (3 : Int))), ())))
 (fun y11 =>
 (some (y11.1, ())))) fuel (a0, a0, (((List.length a0) : Nat) : Int), (0 : Int), ()))
noncomputable def C38 : Fun := ⟨[(.ro (.slice Y62))], [(.bool, .z)], fun z => F38 z.1⟩
noncomputable def E38 : Env := ⟨34, tyTab tys, oneTab ones, fnTab [(68, C68)], false, [], [(2, [0, 5, 6, 7], []), (3, [0, 5, 6, 7], []), (6, [0, 5, 6, 7], []), (7, [0], []), (100000, [0], []), (100001, [0, 5, 6, 7], []), (99999, [2], [])], none, []⟩
noncomputable def L38 : List (LoopS (Bool × Unit)) := [⟨2, ⟨[(0, (.pv (.slice Y62))), (5, (.pv (.slice Y62))), (6, (.pv (.int .i64))), (7, (.pv (.int .i64)))], []⟩, fun κ => F38_R2 (fun y => κ.exit 0 (SSh.mk' ⟨[(0, (.pv (.slice Y62)))], []⟩ y)) (fun y => κ.ret (SSh.mk' ⟨[(2, (.pv .bool))], []⟩ y))⟩]
theorem L38_2 : RoundEq E38 L38 L38[0] (nthLoop (codeOf Tryz.f38) 0) := fun κ N x => by kernel_rfl
theorem C38_ok : QuietOk Tryz.prog 38 C38 := tQ E38 L38 [nthLoop (codeOf Tryz.f38) 0] Tryz.func38 ty_ok (.cons C68_ok .nil) (.cons L38[0] (by kernel_rfl) L38_2 .nil)
noncomputable def F141_R2 (e0_0 : Unit → Option (Int × Unit)) (er_1 : Int × Unit → Option (Int × Unit)) (rec : List (D142) × (D142 → Option (Bool)) × Int × Int × Unit → Option (Int × Unit)) (x2 : List (D142) × (D142 → Option (Bool)) × Int × Int × Unit) : Option (Int × Unit) :=
 (cond (decide (x2.2.2.2.1 < x2.2.2.1))
 (gd (decide ((0 : Int) ≤ x2.2.2.2.1))
 (Option.bind x2.1[(Int.toNat x2.2.2.2.1)]? fun y5 =>
 (Option.bind (x2.2.1 y5) fun y6 =>
 (cond y6
 (er_1 (x2.2.2.2.1, ()))
 (rec (x2.1, x2.2.1, x2.2.2.1, (IntKind.wrap IntKind.i64 (x2.2.2.2.1 + (1 : Int))), ()))))))
 (e0_0 (())))
noncomputable def F141 (a0 : List (D142)) (a1 : (D142 → Option (Bool))) : Option (Int × Unit) :=
 (iter (F141_R2
 (fun y7 =>
 (some ((-(1 : Int)), ())))
 (fun y8 =>
 (some (y8.1, ())))) fuel (a0, a1, (((List.length a0) : Nat) : Int), (0 : Int), ()))
noncomputable def C141 : Fun := ⟨[(.ro (.slice Y142)), (.fn Y142 .bool)], [((.int .i64), .z)], fun z => F141 z.1 z.2.1⟩
noncomputable def E141 : Env := ⟨19, tyTab tys, oneTab ones, fnTab [], false, [], [(2, [0, 1, 7, 8], []), (3, [0, 1, 7, 8], []), (6, [0, 1, 7, 8], []), (7, [], []), (100000, [], []), (100001, [0, 1, 7, 8], []), (99999, [4], [])], none, []⟩
noncomputable def L141 : List (LoopS (Int × Unit)) := [⟨2, ⟨[(0, (.pv (.slice Y142))), (1, (.fnA Y142 .bool)), (7, (.pv (.int .i64))), (8, (.pv (.int .i64)))], []⟩, fun κ => F141_R2 (fun y => κ.exit 0 (SSh.mk' ⟨[], []⟩ y)) (fun y => κ.ret (SSh.mk' ⟨[(4, (.pv (.int .i64)))], []⟩ y))⟩]
theorem L141_2 : RoundEq E141 L141 L141[0] (nthLoop (codeOf Tryz.f141) 0) := fun κ N x => by kernel_rfl
theorem C141_ok : QuietOk Tryz.prog 141 C141 := tQ E141 L141 [nthLoop (codeOf Tryz.f141) 0] Tryz.func141 ty_ok .nil (.cons L141[0] (by kernel_rfl) L141_2 .nil)
noncomputable def F102 (a0 : List (D142)) (a1 : (D142 → Option (Bool))) : Option (Bool × Unit) :=
 (Option.bind (F141 a0 a1) fun y0 =>
 (some ((decide (y0.1 ≥ (0 : Int))), ())))
noncomputable def C102 : Fun := ⟨[(.ro (.slice Y142)), (.fn Y142 .bool)], [(.bool, .z)], fun z => F102 z.1 z.2.1⟩
noncomputable def E102 : Env := ⟨9, tyTab tys, oneTab ones, fnTab [(141, C141)], false, [], [(99999, [4], [])], none, []⟩
noncomputable def L102 : List (LoopS (Bool × Unit)) := []
theorem C102_ok : QuietOk Tryz.prog 102 C102 := tQ E102 L102 [] Tryz.func102 ty_ok (.cons C141_ok .nil) .nil
noncomputable def F104 (a0 : D142) (a1 : D142) : Option (Bool × Unit) :=
 (cond (a0.1.1 == a1.1.1)
 (some ((a0.1.2.1 == a1.1.2.1), ()))
 (some (false, ())))
noncomputable def C104 : Fun := ⟨[(.ro Y142), (.ro Y142)], [(.bool, .z)], fun z => F104 z.1 z.2.1⟩
noncomputable def E104 : Env := ⟨21, tyTab tys, oneTab ones, fnTab [], false, [], [(99999, [4], [])], none, []⟩
noncomputable def L104 : List (LoopS (Bool × Unit)) := []
theorem C104_ok : QuietOk Tryz.prog 104 C104 := tQ E104 L104 [] Tryz.func104 ty_ok .nil .nil
noncomputable def F103 (a0 : D142) (a1 : D142) : Option (Bool × Unit) :=
 (Option.bind (F104 a1 a0) fun y0 =>
 (some (y0.1, ())))
noncomputable def C103 : Fun := ⟨[(.ro Y142), (.rp Y142)], [(.bool, .z)], fun z => F103 z.1 z.2.1⟩
noncomputable def E103 : Env := ⟨7, tyTab tys, oneTab ones, fnTab [(104, C104)], false, [], [(99999, [3], [])], none, []⟩
noncomputable def L103 : List (LoopS (Bool × Unit)) := []
theorem C103_ok : QuietOk Tryz.prog 103 C103 := tQ E103 L103 [] Tryz.func103 ty_ok (.cons C104_ok .nil) .nil
noncomputable def F170_R2 (e0_0 : Unit → Option (Int × Unit)) (er_1 : Int × Unit → Option (Int × Unit)) (rec : List (D119) × (D119 → Option (Bool)) × Int × Int × Unit → Option (Int × Unit)) (x2 : List (D119) × (D119 → Option (Bool)) × Int × Int × Unit) : Option (Int × Unit) :=
 (cond (decide (x2.2.2.2.1 < x2.2.2.1))
 (gd (decide ((0 : Int) ≤ x2.2.2.2.1))
 (Option.bind x2.1[(Int.toNat x2.2.2.2.1)]? fun y5 =>
 (Option.bind (x2.2.1 y5) fun y6 =>
 (cond y6
 (er_1 (x2.2.2.2.1, ()))
 (rec (x2.1, x2.2.1, x2.2.2.1, (IntKind.wrap IntKind.i64 (x2.2.2.2.1 + (1 : Int))), ()))))))
 (e0_0 (())))
noncomputable def F170 (a0 : List (D119)) (a1 : (D119 → Option (Bool))) : Option (Int × Unit) :=
 (iter (F170_R2
 (fun y7 =>
 (some ((-(1 : Int)), ())))
 (fun y8 =>
 (some (y8.1, ())))) fuel (a0, a1, (((List.length a0) : Nat) : Int), (0 : Int), ()))
noncomputable def C170 : Fun := ⟨[(.ro (.slice Y119)), (.fn Y119 .bool)], [((.int .i64), .z)], fun z => F170 z.1 z.2.1⟩
noncomputable def E170 : Env := ⟨19, tyTab tys, oneTab ones, fnTab [], false, [], [(2, [0, 1, 7, 8], []), (3, [0, 1, 7, 8], []), (6, [0, 1, 7, 8], []), (7, [], []), (100000, [], []), (100001, [0, 1, 7, 8], []), (99999, [4], [])], none, []⟩
noncomputable def L170 : List (LoopS (Int × Unit)) := [⟨2, ⟨[(0, (.pv (.slice Y119))), (1, (.fnA Y119 .bool)), (7, (.pv (.int .i64))), (8, (.pv (.int .i64)))], []⟩, fun κ => F170_R2 (fun y => κ.exit 0 (SSh.mk' ⟨[], []⟩ y)) (fun y => κ.ret (SSh.mk' ⟨[(4, (.pv (.int .i64)))], []⟩ y))⟩]
theorem L170_2 : RoundEq E170 L170 L170[0] (nthLoop (codeOf Tryz.f170) 0) := fun κ N x => by kernel_rfl
theorem C170_ok : QuietOk Tryz.prog 170 C170 := tQ E170 L170 [nthLoop (codeOf Tryz.f170) 0] Tryz.func170 ty_ok .nil (.cons L170[0] (by kernel_rfl) L170_2 .nil)
noncomputable def F142 (a0 : List (D119)) (a1 : (D119 → Option (Bool))) : Option (Bool × Unit) :=
 (Option.bind (F170 a0 a1) fun y0 =>
 (some ((decide (y0.1 ≥ (0 : Int))), ())))
noncomputable def C142 : Fun := ⟨[(.ro (.slice Y119)), (.fn Y119 .bool)], [(.bool, .z)], fun z => F142 z.1 z.2.1⟩
noncomputable def E142 : Env := ⟨9, tyTab tys, oneTab ones, fnTab [(170, C170)], false, [], [(99999, [4], [])], none, []⟩
noncomputable def L142 : List (LoopS (Bool × Unit)) := []
theorem C142_ok : QuietOk Tryz.prog 142 C142 := tQ E142 L142 [] Tryz.func142 ty_ok (.cons C170_ok .nil) .nil
noncomputable def F204_R2 (e0_0 : Unit → Option (Int × Unit)) (er_1 : Int × Unit → Option (Int × Unit)) (rec : List (D194) × (D194 → Option (Bool)) × Int × Int × Unit → Option (Int × Unit)) (x2 : List (D194) × (D194 → Option (Bool)) × Int × Int × Unit) : Option (Int × Unit) :=
 (cond (decide (x2.2.2.2.1 < x2.2.2.1))
 (gd (decide ((0 : Int) ≤ x2.2.2.2.1))
 (Option.bind x2.1[(Int.toNat x2.2.2.2.1)]? fun y5 =>
 (Option.bind (x2.2.1 y5) fun y6 =>
 (cond y6
 (er_1 (x2.2.2.2.1, ()))
 (rec (x2.1, x2.2.1, x2.2.2.1, (IntKind.wrap IntKind.i64 (x2.2.2.2.1 + (1 : Int))), ()))))))
 (e0_0 (())))
noncomputable def F204 (a0 : List (D194)) (a1 : (D194 → Option (Bool))) : Option (Int × Unit) :=
 (iter (F204_R2
 (fun y7 =>
 (some ((-(1 : Int)), ())))
 (fun y8 =>
 (some (y8.1, ())))) fuel (a0, a1, (((List.length a0) : Nat) : Int), (0 : Int), ()))
noncomputable def C204 : Fun := ⟨[(.ro (.slice Y194)), (.fn Y194 .bool)], [((.int .i64), .z)], fun z => F204 z.1 z.2.1⟩
noncomputable def E204 : Env := ⟨19, tyTab tys, oneTab ones, fnTab [], false, [], [(2, [0, 1, 7, 8], []), (3, [0, 1, 7, 8], []), (6, [0, 1, 7, 8], []), (7, [], []), (100000, [], []), (100001, [0, 1, 7, 8], []), (99999, [4], [])], none, []⟩
noncomputable def L204 : List (LoopS (Int × Unit)) := [⟨2, ⟨[(0, (.pv (.slice Y194))), (1, (.fnA Y194 .bool)), (7, (.pv (.int .i64))), (8, (.pv (.int .i64)))], []⟩, fun κ => F204_R2 (fun y => κ.exit 0 (SSh.mk' ⟨[], []⟩ y)) (fun y => κ.ret (SSh.mk' ⟨[(4, (.pv (.int .i64)))], []⟩ y))⟩]
theorem L204_2 : RoundEq E204 L204 L204[0] (nthLoop (codeOf Tryz.f204) 0) := fun κ N x => by kernel_rfl
theorem C204_ok : QuietOk Tryz.prog 204 C204 := tQ E204 L204 [nthLoop (codeOf Tryz.f204) 0] Tryz.func204 ty_ok .nil (.cons L204[0] (by kernel_rfl) L204_2 .nil)
noncomputable def F188 (a0 : List (D194)) (a1 : (D194 → Option (Bool))) : Option (Bool × Unit) :=
 (Option.bind (F204 a0 a1) fun y0 =>
 (some ((decide (y0.1 ≥ (0 : Int))), ())))
noncomputable def C188 : Fun := ⟨[(.ro (.slice Y194)), (.fn Y194 .bool)], [(.bool, .z)], fun z => F188 z.1 z.2.1⟩
noncomputable def E188 : Env := ⟨9, tyTab tys, oneTab ones, fnTab [(204, C204)], false, [], [(99999, [4], [])], none, []⟩
noncomputable def L188 : List (LoopS (Bool × Unit)) := []
theorem C188_ok : QuietOk Tryz.prog 188 C188 := tQ E188 L188 [] Tryz.func188 ty_ok (.cons C204_ok .nil) .nil
noncomputable def F205_R2 (e0_0 : Unit → Option (Int × Unit)) (er_1 : Int × Unit → Option (Int × Unit)) (rec : List (D203) × (D203 → Option (Bool)) × Int × Int × Unit → Option (Int × Unit)) (x2 : List (D203) × (D203 → Option (Bool)) × Int × Int × Unit) : Option (Int × Unit) :=
 (cond (decide (x2.2.2.2.1 < x2.2.2.1))
 (gd (decide ((0 : Int) ≤ x2.2.2.2.1))
 (Option.bind x2.1[(Int.toNat x2.2.2.2.1)]? fun y5 =>
 (Option.bind (x2.2.1 y5) fun y6 =>
 (cond y6
 (er_1 (x2.2.2.2.1, ()))
 (rec (x2.1, x2.2.1, x2.2.2.1, (IntKind.wrap IntKind.i64 (x2.2.2.2.1 + (1 : Int))), ()))))))
 (e0_0 (())))
noncomputable def F205 (a0 : List (D203)) (a1 : (D203 → Option (Bool))) : Option (Int × Unit) :=
 (iter (F205_R2
 (fun y7 =>
 (some ((-(1 : Int)), ())))
 (fun y8 =>
 (some (y8.1, ())))) fuel (a0, a1, (((List.length a0) : Nat) : Int), (0 : Int), ()))
noncomputable def C205 : Fun := ⟨[(.ro (.slice Y203)), (.fn Y203 .bool)], [((.int .i64), .z)], fun z => F205 z.1 z.2.1⟩
noncomputable def E205 : Env := ⟨19, tyTab tys, oneTab ones, fnTab [], false, [], [(2, [0, 1, 7, 8], []), (3, [0, 1, 7, 8], []), (6, [0, 1, 7, 8], []), (7, [], []), (100000, [], []), (100001, [0, 1, 7, 8], []), (99999, [4], [])], none, []⟩
noncomputable def L205 : List (LoopS (Int × Unit)) := [⟨2, ⟨[(0, (.pv (.slice Y203))), (1, (.fnA Y203 .bool)), (7, (.pv (.int .i64))), (8, (.pv (.int .i64)))], []⟩, fun κ => F205_R2 (fun y => κ.exit 0 (SSh.mk' ⟨[], []⟩ y)) (fun y => κ.ret (SSh.mk' ⟨[(4, (.pv (.int .i64)))], []⟩ y))⟩]
theorem L205_2 : RoundEq E205 L205 L205[0] (nthLoop (codeOf Tryz.f205) 0) := fun κ N x => by kernel_rfl
theorem C205_ok : QuietOk Tryz.prog 205 C205 := tQ E205 L205 [nthLoop (codeOf Tryz.f205) 0] Tryz.func205 ty_ok .nil (.cons L205[0] (by kernel_rfl) L205_2 .nil)
noncomputable def F190 (a0 : List (D203)) (a1 : (D203 → Option (Bool))) : Option (Bool × Unit) :=
 (Option.bind (F205 a0 a1) fun y0 =>
 (some ((decide (y0.1 ≥ (0 : Int))), ())))
noncomputable def C190 : Fun := ⟨[(.ro (.slice Y203)), (.fn Y203 .bool)], [(.bool, .z)], fun z => F190 z.1 z.2.1⟩
noncomputable def E190 : Env := ⟨9, tyTab tys, oneTab ones, fnTab [(205, C205)], false, [], [(99999, [4], [])], none, []⟩
noncomputable def L190 : List (LoopS (Bool × Unit)) := []
theorem C190_ok : QuietOk Tryz.prog 190 C190 := tQ E190 L190 [] Tryz.func190 ty_ok (.cons C205_ok .nil) .nil
noncomputable def F192 (a0 : D203) : Option (Bool × Unit) :=
 (Option.bind (F165 a0.2.1) fun y1 =>
 (cond (!y1.1)
 (some (false, ()))
 (Option.bind (F187 a0.2.2.1) fun y2 =>
 (cond (!y2.1)
 (some (false, ()))
 (cond (a0.1 == (7 : Int))
 (some ((a0.2.2.1.1 == (4 : Int)), ()))
 (cond (a0.1 == (8 : Int))
 (some ((a0.2.2.1.1 == (1 : Int)), ()))
 (cond (a0.1 == (9 : Int))
 (cond (a0.2.2.1.1 == (2 : Int))
 (Option.bind (F40 a0.2.2.1.2.1 (0 : Int) (5 : Int)) fun y4 =>
 (some (y4.1, ())))
 (some (false, ())))
 (cond (a0.1 == (10 : Int))
 (cond (a0.2.2.1.1 == (2 : Int))
 (some ((decide (a0.2.2.1.2.1 ≥ (0 : Int))), ()))
 (some (false, ())))
 (Option.bind (F40 a0.1 (1 : Int) (6 : Int)) fun y5 =>
 (some (y5.1, ())))))))))))
noncomputable def C192 : Fun := ⟨[(.ro Y203)], [(.bool, .z)], fun z => F192 z.1⟩
noncomputable def E192 : Env := ⟨54, tyTab tys, oneTab ones, fnTab [(40, C40), (165, C165), (187, C187)], false, [], [(3, [1], []), (12, [1], []), (100000, [1], []), (99999, [2], [])], none, []⟩
noncomputable def L192 : List (LoopS (Bool × Unit)) := []
theorem C192_ok : QuietOk Tryz.prog 192 C192 := tQ E192 L192 [] Tryz.func192 ty_ok (.cons C40_ok (.cons C165_ok (.cons C187_ok .nil))) .nil
noncomputable def F191 (a0 : D203) : Option (Bool × Unit) :=
 (Option.bind (F192 a0) fun y0 =>
 (some ((!y0.1), ())))
noncomputable def C191 : Fun := ⟨[(.ro Y203)], [(.bool, .z)], fun z => F191 z.1⟩
noncomputable def E191 : Env := ⟨6, tyTab tys, oneTab ones, fnTab [(192, C192)], false, [], [(99999, [2], [])], none, []⟩
noncomputable def L191 : List (LoopS (Bool × Unit)) := []
theorem C191_ok : QuietOk Tryz.prog 191 C191 := tQ E191 L191 [] Tryz.func191 ty_ok (.cons C192_ok .nil) .nil
noncomputable def F189 (a0 : D194) : Option (Bool × Unit) :=
 (cond (decide ((((List.length a0.1) : Nat) : Int) > (4 : Int)))
 (some (true, ()))
 (Option.bind (F190 a0.1 (fun (v2 : D203) => (Option.map (fun (v3 : (Bool × Unit)) => v3.1) (F191 v2)))) fun y0 =>
 (some (y0.1, ()))))
noncomputable def C189 : Fun := ⟨[(.ro Y194)], [(.bool, .z)], fun z => F189 z.1⟩
noncomputable def E189 : Env := ⟨12, tyTab tys, oneTab ones, fnTab [(190, C190), (191, C191)], false, [], [(99999, [2], [])], none, []⟩
noncomputable def L189 : List (LoopS (Bool × Unit)) := []
theorem C189_ok : QuietOk Tryz.prog 189 C189 := tQ E189 L189 [] Tryz.func189 ty_ok (.cons C190_ok (.cons C191_ok .nil)) .nil
noncomputable def F171 (a0 : D117) : Option (Bool × Unit) :=
 (Option.bind (F40 (((List.length a0.1) : Nat) : Int) (1 : Int) (3 : Int)) fun y0 =>
 (cond y0.1
 (Option.bind (F188 a0.1 (fun (v3 : D194) => (Option.map (fun (v4 : (Bool × Unit)) => v4.1) (F189 v3)))) fun y1 =>
 (some ((!y1.1), ())))
 (some (false, ()))))
noncomputable def C171 : Fun := ⟨[(.ro Y117)], [(.bool, .z)], fun z => F171 z.1⟩
noncomputable def E171 : Env := ⟨13, tyTab tys, oneTab ones, fnTab [(40, C40), (188, C188), (189, C189)], false, [], [(99999, [2], [])], none, []⟩
noncomputable def L171 : List (LoopS (Bool × Unit)) := []
theorem C171_ok : QuietOk Tryz.prog 171 C171 := tQ E171 L171 [] Tryz.func171 ty_ok (.cons C40_ok (.cons C188_ok (.cons C189_ok .nil))) .nil
noncomputable def F144 (a0 : D119) : Option (Bool × Unit) :=
 (Option.bind (F101 a0.1) fun y0 =>
 (cond y0.1
 (Option.bind (F171 a0.2.1) fun y1 =>
 (some (y1.1, ())))
 (some (false, ()))))
noncomputable def C144 : Fun := ⟨[(.ro Y119)], [(.bool, .z)], fun z => F144 z.1⟩
noncomputable def E144 : Env := ⟨11, tyTab tys, oneTab ones, fnTab [(101, C101), (171, C171)], false, [], [(99999, [2], [])], none, []⟩
noncomputable def L144 : List (LoopS (Bool × Unit)) := []
theorem C144_ok : QuietOk Tryz.prog 144 C144 := tQ E144 L144 [] Tryz.func144 ty_ok (.cons C101_ok (.cons C171_ok .nil)) .nil
noncomputable def F143 (a0 : D119) : Option (Bool × Unit) :=
 (Option.bind (F144 a0) fun y0 =>
 (some ((!y0.1), ())))
noncomputable def C143 : Fun := ⟨[(.ro Y119)], [(.bool, .z)], fun z => F143 z.1⟩
noncomputable def E143 : Env := ⟨6, tyTab tys, oneTab ones, fnTab [(144, C144)], false, [], [(99999, [2], [])], none, []⟩
noncomputable def L143 : List (LoopS (Bool × Unit)) := []
theorem C143_ok : QuietOk Tryz.prog 143 C143 := tQ E143 L143 [] Tryz.func143 ty_ok (.cons C144_ok .nil) .nil
noncomputable def F106 (a0 : List (D119)) : Option (Bool × Unit) :=
 (Option.bind (F142 a0 (fun (v2 : D119) => (Option.map (fun (v3 : (Bool × Unit)) => v3.1) (F143 v2)))) fun y0 =>
 (some ((!y0.1), ())))
noncomputable def C106 : Fun := ⟨[(.ro (.slice Y119))], [(.bool, .z)], fun z => F106 z.1⟩
noncomputable def E106 : Env := ⟨6, tyTab tys, oneTab ones, fnTab [(142, C142), (143, C143)], false, [], [(99999, [2], [])], none, []⟩
noncomputable def L106 : List (LoopS (Bool × Unit)) := []
theorem C106_ok : QuietOk Tryz.prog 106 C106 := tQ E106 L106 [] Tryz.func106 ty_ok (.cons C142_ok (.cons C143_ok .nil)) .nil
noncomputable def F108 (a0 : D89) : Option (Bool × Unit) :=
 (Option.bind (F101 a0.1) fun y0 =>
 (cond y0.1
 (Option.bind (F40 a0.2.1 (0 : Int) (19 : Int)) fun y1 =>
 (cond y1.1
 (Option.bind (F139 a0.2.2.1 a0.2.2.2.1 a0.2.1) fun y2 =>
 (some (y2.1, ())))
 (some (false, ()))))
 (some (false, ()))))
noncomputable def C108 : Fun := ⟨[(.ro Y89)], [(.bool, .z)], fun z => F108 z.1⟩
noncomputable def E108 : Env := ⟨20, tyTab tys, oneTab ones, fnTab [(40, C40), (101, C101), (139, C139)], false, [], [(99999, [2], [])], none, []⟩
noncomputable def L108 : List (LoopS (Bool × Unit)) := []
theorem C108_ok : QuietOk Tryz.prog 108 C108 := tQ E108 L108 [] Tryz.func108 ty_ok (.cons C40_ok (.cons C101_ok (.cons C139_ok .nil))) .nil
noncomputable def F146 (a0 : D142) : Option (Bool × Unit) :=
 (Option.bind (F108 a0.1) fun y0 =>
 (cond y0.1
 (Option.bind (F139 (!a0.2.2.1) a0.2.1 a0.1.2.1) fun y1 =>
 (some (y1.1, ())))
 (some (false, ()))))
noncomputable def C146 : Fun := ⟨[(.ro Y142)], [(.bool, .z)], fun z => F146 z.1⟩
noncomputable def E146 : Env := ⟨17, tyTab tys, oneTab ones, fnTab [(108, C108), (139, C139)], false, [], [(99999, [2], [])], none, []⟩
noncomputable def L146 : List (LoopS (Bool × Unit)) := []
theorem C146_ok : QuietOk Tryz.prog 146 C146 := tQ E146 L146 [] Tryz.func146 ty_ok (.cons C108_ok (.cons C139_ok .nil)) .nil
noncomputable def F145 (a0 : D142) : Option (Bool × Unit) :=
 (Option.bind (F146 a0) fun y0 =>
 (some ((!y0.1), ())))
noncomputable def C145 : Fun := ⟨[(.ro Y142)], [(.bool, .z)], fun z => F145 z.1⟩
noncomputable def E145 : Env := ⟨6, tyTab tys, oneTab ones, fnTab [(146, C146)], false, [], [(99999, [2], [])], none, []⟩
noncomputable def L145 : List (LoopS (Bool × Unit)) := []
theorem C145_ok : QuietOk Tryz.prog 145 C145 := tQ E145 L145 [] Tryz.func145 ty_ok (.cons C146_ok .nil) .nil
noncomputable def F107 (a0 : List (D142)) : Option (Bool × Unit) :=
 (Option.bind (F102 a0 (fun (v2 : D142) => (Option.map (fun (v3 : (Bool × Unit)) => v3.1) (F145 v2)))) fun y0 =>
 (some ((!y0.1), ())))
noncomputable def C107 : Fun := ⟨[(.ro (.slice Y142))], [(.bool, .z)], fun z => F107 z.1⟩
noncomputable def E107 : Env := ⟨6, tyTab tys, oneTab ones, fnTab [(102, C102), (145, C145)], false, [], [(99999, [2], [])], none, []⟩
noncomputable def L107 : List (LoopS (Bool × Unit)) := []
theorem C107_ok : QuietOk Tryz.prog 107 C107 := tQ E107 L107 [] Tryz.func107 ty_ok (.cons C102_ok (.cons C145_ok .nil)) .nil
noncomputable def F69_R2 (e0_0 : D71 × Unit → Option (Bool × Unit)) (er_1 : Bool × Unit → Option (Bool × Unit)) (rec : List (D142) × Int × Int × D71 × Unit → Option (Bool × Unit)) (x2 : List (D142) × Int × Int × D71 × Unit) : Option (Bool × Unit) :=
 (cond (decide (x2.2.2.1 < x2.2.1))
 (gd (decide ((0 : Int) ≤ x2.2.2.1))
 (Option.bind x2.1[(Int.toNat x2.2.2.1)]? fun y5 =>
 (gd (decide ((0 : Int) ≤ x2.2.2.1))
 (gd (decide (x2.2.2.1 ≤ (((List.length x2.2.2.2.1.2.2.2.1) : Nat) : Int)))
 (Option.bind (F102 (List.drop (Int.toNat (0 : Int)) (List.take (Int.toNat x2.2.2.1) x2.2.2.2.1.2.2.2.1)) (fun (v9 : D142) => (Option.map (fun (v10 : (Bool × Unit)) => v10.1) (F103 v9 y5)))) fun y6 =>
 (cond y6.1
 (er_1 (false, ()))
 (rec (x2.1, x2.2.1, (IntKind.wrap IntKind.i64 (x2.2.2.1 + (1 : Int))), x2.2.2.2.1, ()))))))))
 (e0_0 (x2.2.2.2.1, ())))
noncomputable def F69 (a0 : D71) : Option (Bool × Unit) :=
 (iter (F69_R2
 (fun y7 =>
 (cond (decide (y7.1.1 ≥ (0 : Int)))
 (Option.bind (F105 y7.1.2.1) fun y9 =>
 (cond y9.1
 (cond (decide (y7.1.2.1 > y7.1.1))
 (cond (decide ((((List.length y7.1.2.2.1) : Nat) : Int) ≤ (20 : Int)))
 (cond (decide ((((List.length y7.1.2.2.2.1) : Nat) : Int) ≤ (60 : Int)))
 (Option.bind (F106 y7.1.2.2.1) fun y10 =>
 (cond y10.1
 (Option.bind (F107 y7.1.2.2.2.1) fun y11 =>
 (some (y11.1, ())))
 (some (false, ()))))
 (some (false, ())))
 (some (false, ())))
 (some (false, ())))
 (some (false, ()))))
 (some (false, ()))))
 (fun y8 =>
 (some (y8.1, ())))) fuel (a0.2.2.2.1, (((List.length a0.2.2.2.1) : Nat) : Int), (0 : Int), a0, ()))
noncomputable def C69 : Fun := ⟨[(.ro Y71)], [(.bool, .z)], fun z => F69 z.1⟩
noncomputable def E69 : Env := ⟨57, tyTab tys, oneTab ones, fnTab [(102, C102), (103, C103), (105, C105), (106, C106), (107, C107)], false, [], [(2, [1, 6, 7, 8], []), (3, [1, 6, 7, 8], []), (6, [1, 6, 7, 8], []), (7, [1], []), (100000, [1], []), (100001, [1, 6, 7, 8], []), (99999, [2], [])], none, []⟩
noncomputable def L69 : List (LoopS (Bool × Unit)) := [⟨2, ⟨[(1, (.ptr 8 [])), (6, (.pv (.slice Y142))), (7, (.pv (.int .i64))), (8, (.pv (.int .i64)))], [(8, (.data true Y71 .z))]⟩, fun κ => F69_R2 (fun y => κ.exit 0 (SSh.mk' ⟨[(1, (.ptr 8 []))], [(8, (.data true Y71 .z))]⟩ y)) (fun y => κ.ret (SSh.mk' ⟨[(2, (.pv .bool))], []⟩ y))⟩]
theorem L69_2 : RoundEq E69 L69 L69[0] (nthLoop (codeOf Tryz.f69) 0) := fun κ N x => by kernel_rfl
theorem C69_ok : QuietOk Tryz.prog 69 C69 := tQ E69 L69 [nthLoop (codeOf Tryz.f69) 0] Tryz.func69 ty_ok (.cons C102_ok (.cons C103_ok (.cons C105_ok (.cons C106_ok (.cons C107_ok .nil))))) (.cons L69[0] (by kernel_rfl) L69_2 .nil)
noncomputable def F39_R2 (e0_0 : List (D71) × Unit → Option (Bool × Unit)) (er_1 : Bool × Unit → Option (Bool × Unit)) (rec : List (D71) × List (D71) × Int × Int × Unit → Option (Bool × Unit)) (x2 : List (D71) × List (D71) × Int × Int × Unit) : Option (Bool × Unit) :=
 (cond (decide (x2.2.2.2.1 < x2.2.2.1))
 (let j9 : List (D71) × List (D71) × Int × Int × Unit → Option (Bool × Unit) := fun (y10 : List (D71) × List (D71) × Int × Int × Unit) =>
 (rec (y10.1, y10.2.1, y10.2.2.1, (IntKind.wrap IntKind.i64 (y10.2.2.2.1 + (1 : Int))), ()))
 (gd (decide ((0 : Int) ≤ x2.2.2.2.1))
 (Option.bind x2.2.1[(Int.toNat x2.2.2.2.1)]? fun y5 =>
 (Option.bind (F69 y5) fun y6 =>
 (cond (!y6.1)
 (er_1 (false, ()))
 (cond y5.2.2.2.2.1
 (cond y5.2.2.2.2.2.1
 (er_1 (false, ()))
 (cond (decide (x2.2.2.2.1 > (0 : Int)))
 (gd (decide ((0 : Int) ≤ (IntKind.wrap IntKind.i64 (x2.2.2.2.1 - (1 : Int)))))
 (Option.bind x2.1[(Int.toNat (IntKind.wrap IntKind.i64 (x2.2.2.2.1 - (1 : Int))))]? fun y7 =>
 (cond (decide (y7.2.1 ≥ y5.2.1))
 (er_1 (false, ()))
 (j9 (x2.1, x2.2.1, x2.2.2.1, x2.2.2.2.1, ())))))
 (j9 (x2.1, x2.2.1, x2.2.2.1, x2.2.2.2.1, ()))))
 (cond (decide (x2.2.2.2.1 > (0 : Int)))
 (gd (decide ((0 : Int) ≤ (IntKind.wrap IntKind.i64 (x2.2.2.2.1 - (1 : Int)))))
 (Option.bind x2.1[(Int.toNat (IntKind.wrap IntKind.i64 (x2.2.2.2.1 - (1 : Int))))]? fun y8 =>
 (cond (decide (y8.2.1 ≥ y5.2.1))
 (er_1 (false, ()))
 (j9 (x2.1, x2.2.1, x2.2.2.1, x2.2.2.2.1, ())))))
 (j9 (x2.1, x2.2.1, x2.2.2.1, x2.2.2.2.1, ())))))))))
 (e0_0 (x2.1, ())))
noncomputable def F39 (a0 : List (D71)) : Option (Bool × Unit) :=
 (iter (F39_R2
 (fun y11 =>
 (some ((decide ((((List.length y11.1) : Nat) : Int) ≤ (30 : Int))), ())))
 (fun y12 =>
 (some (y12.1, ())))) fuel (a0, a0, (((List.length a0) : Nat) : Int), (0 : Int), ()))
noncomputable def C39 : Fun := ⟨[(.ro (.slice Y71))], [(.bool, .z)], fun z => F39 z.1⟩
noncomputable def E39 : Env := ⟨42, tyTab tys, oneTab ones, fnTab [(69, C69)], false, [], [(2, [0, 5, 6, 7], []), (3, [0, 5, 6, 7], []), (6, [0, 5, 6, 7], []), (7, [0], []), (100000, [0], []), (100001, [0, 5, 6, 7], []), (99999, [2], [])], none, []⟩
noncomputable def L39 : List (LoopS (Bool × Unit)) := [⟨2, ⟨[(0, (.pv (.slice Y71))), (5, (.pv (.slice Y71))), (6, (.pv (.int .i64))), (7, (.pv (.int .i64)))], []⟩, fun κ => F39_R2 (fun y => κ.exit 0 (SSh.mk' ⟨[(0, (.pv (.slice Y71)))], []⟩ y)) (fun y => κ.ret (SSh.mk' ⟨[(2, (.pv .bool))], []⟩ y))⟩]
theorem L39_2 : RoundEq E39 L39 L39[0] (nthLoop (codeOf Tryz.f39) 0) := fun κ N x => by kernel_rfl
theorem C39_ok : QuietOk Tryz.prog 39 C39 := tQ E39 L39 [nthLoop (codeOf Tryz.f39) 0] Tryz.func39 ty_ok (.cons C69_ok .nil) (.cons L39[0] (by kernel_rfl) L39_2 .nil)
end Go.V
