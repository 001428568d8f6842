/- What functions of the program compute, printed by a program of ours. No condition. -/
import Derived.Test.YtafhmggfbojpdaaGreatDoorWF2
namespace Go.V
open Go.Proofs
set_option maxRecDepth 100000
set_option linter.unusedVariables false
noncomputable def F188 (a0 : List UInt8) (a1 : List UInt8) : Option (Int × Unit) :=
 (Option.bind (F208 a0 a1) fun y0 =>
 (some (y0.1, ())))
noncomputable def C188 : Fun := ⟨[(.ro .str), (.ro .str)], [((.int .i64), .z)], fun z => F188 z.1 z.2.1⟩
noncomputable def E188 : Env := ⟨8, tyTab tys, oneTab ones, fnTab [], false, [], [(99999, [4], [])], none, [(208, C208)], []⟩
noncomputable def L188 : List (LoopS (Int × Unit)) := []
theorem C188_ok : QuietOk Tryz.prog 188 C188 := tQ E188 L188 [] Tryz.func188 ty_ok .nil .nil (hx := (.cons C208_ok .nil))
noncomputable def F165 (a0 : List UInt8) (a1 : List UInt8) : Option (Int × Unit) :=
 (Option.bind (F188 a0 a1) fun y0 =>
 (some (y0.1, ())))
noncomputable def C165 : Fun := ⟨[(.ro .str), (.ro .str)], [((.int .i64), .z)], fun z => F165 z.1 z.2.1⟩
noncomputable def E165 : Env := ⟨8, tyTab tys, oneTab ones, fnTab [(188, C188)], false, [], [(99999, [4], [])], none, [], []⟩
noncomputable def L165 : List (LoopS (Int × Unit)) := []
theorem C165_ok : QuietOk Tryz.prog 165 C165 := tQ E165 L165 [] Tryz.func165 ty_ok (.cons C188_ok .nil) .nil
noncomputable def F231 (a0 : D268) (a1 : List UInt8) : Option (Int × Unit) :=
 (Option.bind (F165 a0.1 a1) fun y0 =>
 (some (y0.1, ())))
noncomputable def C231 : Fun := ⟨[(.ro Y268), (.ro .str)], [((.int .i64), .z)], fun z => F231 z.1 z.2.1⟩
noncomputable def E231 : Env := ⟨9, tyTab tys, oneTab ones, fnTab [(165, C165)], false, [], [(99999, [4], [])], none, [], []⟩
noncomputable def L231 : List (LoopS (Int × Unit)) := []
theorem C231_ok : QuietOk Tryz.prog 231 C231 := tQ E231 L231 [] Tryz.func231 ty_ok (.cons C165_ok .nil) .nil
noncomputable def F230_R3 (e0_0 : List (D268) × List UInt8 × Int × Int × Unit → Option (Int × Bool × Unit)) (rec : List (D268) × List UInt8 × Int × Int × Int × Unit → Option (Int × Bool × Unit)) (x2 : List (D268) × List UInt8 × Int × Int × Int × Unit) : Option (Int × Bool × Unit) :=
 (cond (decide (x2.2.2.2.1 < x2.2.2.2.2.1))
 (gd (decide ((0 : Int) ≤ (IntKind.wrap IntKind.i64 (Int.fdiv (IntKind.wrap IntKind.u64 (IntKind.wrap IntKind.i64 (x2.2.2.2.1 + x2.2.2.2.2.1))) ((2 : Int) ^ (Min.min (Int.toNat (1 : Int)) (IntKind.bits IntKind.u64)))))))
 (Option.bind x2.1[(Int.toNat (IntKind.wrap IntKind.i64 (Int.fdiv (IntKind.wrap IntKind.u64 (IntKind.wrap IntKind.i64 (x2.2.2.2.1 + x2.2.2.2.2.1))) ((2 : Int) ^ (Min.min (Int.toNat (1 : Int)) (IntKind.bits IntKind.u64))))))]? fun y4 =>
 (Option.bind (F231 y4 x2.2.1) fun y5 =>
 (cond (decide (y5.1 < (0 : Int)))
 (rec (x2.1, x2.2.1, x2.2.2.1, (IntKind.wrap IntKind.i64 ((IntKind.wrap IntKind.i64 (Int.fdiv (IntKind.wrap IntKind.u64 (IntKind.wrap IntKind.i64 (x2.2.2.2.1 + x2.2.2.2.2.1))) ((2 : Int) ^ (Min.min (Int.toNat (1 : Int)) (IntKind.bits IntKind.u64))))) + (1 : Int))), x2.2.2.2.2.1, ()))
 (rec (x2.1, x2.2.1, x2.2.2.1, x2.2.2.2.1, (IntKind.wrap IntKind.i64 (Int.fdiv (IntKind.wrap IntKind.u64 (IntKind.wrap IntKind.i64 (x2.2.2.2.1 + x2.2.2.2.2.1))) ((2 : Int) ^ (Min.min (Int.toNat (1 : Int)) (IntKind.bits IntKind.u64))))), ()))))))
 (e0_0 (x2.1, x2.2.1, x2.2.2.1, x2.2.2.2.1, ())))
noncomputable def F230 (a0 : List (D268)) (a1 : List UInt8) (a2 : (Unit)) : Option (Int × Bool × Unit) :=
 (iter (F230_R3
 (fun y6 =>
 (cond (decide (y6.2.2.2.1 < y6.2.2.1))
 (gd (decide ((0 : Int) ≤ y6.2.2.2.1))
 (Option.bind y6.1[(Int.toNat y6.2.2.2.1)]? fun y7 =>
 (Option.bind (F231 y7 y6.2.1) fun y8 =>
 (some (y6.2.2.2.1, ((y8.1 == (0 : Int)), ()))))))
 (some (y6.2.2.2.1, (false, ())))))) fuel (a0, a1, (((List.length a0) : Nat) : Int), (0 : Int), (((List.length a0) : Nat) : Int), ()))
noncomputable def C230 : Fun := ⟨[(.ro (.slice Y268)), (.ro .str), (.st 231 [])], [((.int .i64), .z), (.bool, .z)], fun z => F230 z.1 z.2.1 z.2.2.1⟩
noncomputable def E230 : Env := ⟨49, tyTab tys, oneTab ones, fnTab [(231, C231)], false, [], [(3, [0, 1, 2, 8, 9, 10], []), (4, [0, 1, 2, 8, 9, 10], []), (8, [0, 1, 2, 8, 9], []), (100000, [0, 1, 2, 8, 9], []), (100001, [0, 1, 2, 8, 9, 10], []), (99999, [6, 7], [])], none, [], []⟩
noncomputable def L230 : List (LoopS (Int × Bool × Unit)) := [⟨3, ⟨[(0, (.pv (.slice Y268))), (1, (.pv .str)), (2, (.clo 231 [])), (8, (.pv (.int .i64))), (9, (.pv (.int .i64))), (10, (.pv (.int .i64)))], []⟩, fun κ => F230_R3 (fun y => κ.exit 0 (SSh.mk' ⟨[(0, (.pv (.slice Y268))), (1, (.pv .str)), (2, (.clo 231 [])), (8, (.pv (.int .i64))), (9, (.pv (.int .i64)))], []⟩ y))⟩]
theorem L230_3 : RoundEq E230 L230 L230[0] (nthLoop (codeOf Tryz.f230) 0) := fun κ N x => by kernel_rfl
theorem C230_ok : QuietOk Tryz.prog 230 C230 := tQ E230 L230 [nthLoop (codeOf Tryz.f230) 0] Tryz.func230 ty_ok (.cons C231_ok .nil) (.cons L230[0] (by kernel_rfl) L230_3 .nil)
noncomputable def F216 (a0 : List (D268)) (a1 : List UInt8) : Option (Int × Bool × Unit) :=
 (Option.bind (F230 a0 a1 ()) fun y0 =>
 (some (y0.1, (y0.2.1, ()))))
noncomputable def C216 : Fun := ⟨[(.ro (.slice Y268)), (.ro .str)], [((.int .i64), .z), (.bool, .z)], fun z => F216 z.1 z.2.1⟩
noncomputable def E216 : Env := ⟨11, tyTab tys, oneTab ones, fnTab [(230, C230), (231, C231)], false, [], [(99999, [4, 5], [])], none, [], []⟩
noncomputable def L216 : List (LoopS (Int × Bool × Unit)) := []
theorem C216_ok : QuietOk Tryz.prog 216 C216 := tQ E216 L216 [] Tryz.func216 ty_ok (.cons C230_ok (.cons C231_ok .nil)) .nil
noncomputable def F201 (a0 : D74) (a1 : List UInt8) : Option (D74 × Bool × Unit) :=
 (Option.bind (F215 a0) fun y0 =>
 (Option.bind (F216 y0.1 a1) fun y1 =>
 (cond (!y1.2.1)
 (some (((0 : Int), ((0 : Int), ([], ()))), (false, ())))
 (gd (decide ((0 : Int) ≤ y1.1))
 (Option.bind y0.1[(Int.toNat y1.1)]? fun y3 =>
 (some (y3.2.1, (true, ()))))))))
noncomputable def C201 : Fun := ⟨[(.ro Y74), (.ro .str)], [(Y74, .z), (.bool, .z)], fun z => F201 z.1 z.2.1⟩
noncomputable def E201 : Env := ⟨29, tyTab tys, oneTab ones, fnTab [(215, C215), (216, C216)], false, [], [(5, [4, 6, 8], []), (99999, [4, 5], [])], none, [], []⟩
noncomputable def L201 : List (LoopS (D74 × Bool × Unit)) := []
theorem C201_ok : QuietOk Tryz.prog 201 C201 := tQ E201 L201 [] Tryz.func201 ty_ok (.cons C215_ok (.cons C216_ok .nil)) .nil
noncomputable def F182 (a0 : D74) : Option (Int × Bool × Unit) :=
 (Option.bind (F201 a0 [(105 : UInt8), (100 : UInt8)]) fun y0 =>
 (cond (y0.1.1 == (2 : Int))
 (Option.bind (F54 y0.1.2.1 (0 : Int) (99 : Int)) fun y1 =>
 (some (y0.1.2.1, (y1.1, ()))))
 (some (y0.1.2.1, (false, ())))))
noncomputable def C182 : Fun := ⟨[(.ro Y74)], [((.int .i64), .z), (.bool, .z)], fun z => F182 z.1⟩
noncomputable def E182 : Env := ⟨21, tyTab tys, oneTab ones, fnTab [(54, C54), (201, C201)], false, [], [(99999, [2, 3], [])], none, [], []⟩
noncomputable def L182 : List (LoopS (Int × Bool × Unit)) := []
theorem C182_ok : QuietOk Tryz.prog 182 C182 := tQ E182 L182 [] Tryz.func182 ty_ok (.cons C54_ok (.cons C201_ok .nil)) .nil
noncomputable def F232 (a0 : Int) : Option (Bool × Unit) :=
 (Option.bind (F54 a0 (-(1000000000000 : Int)) (1000000000000 : Int)) fun y0 =>
 (some (y0.1, ())))
noncomputable def C232 : Fun := ⟨[(.ro (.int .i64))], [(.bool, .z)], fun z => F232 z.1⟩
noncomputable def E232 : Env := ⟨5, tyTab tys, oneTab ones, fnTab [(54, C54)], false, [], [(99999, [2], [])], none, [], []⟩
noncomputable def L232 : List (LoopS (Bool × Unit)) := []
theorem C232_ok : QuietOk Tryz.prog 232 C232 := tQ E232 L232 [] Tryz.func232 ty_ok (.cons C54_ok .nil) .nil
noncomputable def F243_R2 (e0_0 : D209 × List (D74) × Unit → Option (List (D74) × Bool × Unit)) (rec : D209 × List (D74) × Unit → Option (List (D74) × Bool × Unit)) (x2 : D209 × List (D74) × Unit) : Option (List (D74) × Bool × Unit) :=
 (cond (!(x2.1.1 == []))
 (cond (!x2.1.2.1)
 (Option.bind (F229 x2.1) fun y4 =>
 (gd (decide (((List.length x2.2.1) + (List.length [y4.1])) ≤ lim))
 (rec (y4.2.1, (x2.2.1 ++ [y4.1]), ()))))
 (e0_0 (x2.1, x2.2.1, ())))
 (e0_0 (x2.1, x2.2.1, ())))
noncomputable def F243 (a0 : D74) : Option (List (D74) × Bool × Unit) :=
 (iter (F243_R2
 (fun y5 =>
 (some (y5.2.1, ((!y5.1.2.1), ()))))) fuel ((a0.2.2.1, (false, ())), [], ()))
noncomputable def C243 : Fun := ⟨[(.ro Y74)], [((.slice Y74), .z), (.bool, .z)], fun z => F243 z.1⟩
noncomputable def E243 : Env := ⟨34, tyTab tys, oneTab ones, fnTab [(229, C229)], false, [], [(2, [4, 5], []), (3, [4, 5], []), (4, [4, 5], []), (100000, [4, 5], []), (100001, [4, 5], []), (99999, [2, 3], [])], none, [], []⟩
noncomputable def L243 : List (LoopS (List (D74) × Bool × Unit)) := [⟨2, ⟨[(4, (.ptr 72 [])), (5, (.ref (.slice Y74) 80 []))], [(72, (.data true Y209 .z)), (80, (.data false (.slice Y74) (.own .z)))]⟩, fun κ => F243_R2 (fun y => κ.exit 0 (SSh.mk' ⟨[(4, (.ptr 72 [])), (5, (.ref (.slice Y74) 80 []))], [(72, (.data true Y209 .z)), (80, (.data false (.slice Y74) (.own .z)))]⟩ y))⟩]
theorem L243_2 : RoundEq E243 L243 L243[0] (nthLoop (codeOf Tryz.f243) 0) := fun κ N x => by kernel_rfl
theorem C243_ok : QuietOk Tryz.prog 243 C243 := tQ E243 L243 [nthLoop (codeOf Tryz.f243) 0] Tryz.func243 ty_ok (.consIo C229_ok .nil) (.cons L243[0] (by kernel_rfl) L243_2 .nil)
noncomputable def F233_R6 (e0_0 : Bool × List (D74) × Unit → Option (List (D74) × Bool × Unit)) (rec : List (D268) × Bool × List (D268) × Int × Int × List (D74) × Unit → Option (List (D74) × Bool × Unit)) (x5 : List (D268) × Bool × List (D268) × Int × Int × List (D74) × Unit) : Option (List (D74) × Bool × Unit) :=
 (cond (decide (x5.2.2.2.2.1 < x5.2.2.2.1))
 (gd (decide ((0 : Int) ≤ x5.2.2.2.2.1))
 (Option.bind x5.2.2.1[(Int.toNat x5.2.2.2.2.1)]? fun y7 =>
 (cond x5.2.1
 (Option.bind (F120 y7.1) fun y8 =>
 (cond y8.1
 (cond (x5.2.2.2.2.1 == (0 : Int))
 (gd (decide (((List.length x5.2.2.2.2.2.1) + (List.length [y7.2.1])) ≤ lim))
 (rec (x5.1, true, x5.2.2.1, x5.2.2.2.1, (IntKind.wrap IntKind.i64 (x5.2.2.2.2.1 + (1 : Int))), (x5.2.2.2.2.2.1 ++ [y7.2.1]), ())))
 (gd (decide ((0 : Int) ≤ (IntKind.wrap IntKind.i64 (x5.2.2.2.2.1 - (1 : Int)))))
 (Option.bind x5.1[(Int.toNat (IntKind.wrap IntKind.i64 (x5.2.2.2.2.1 - (1 : Int))))]? fun y9 =>
 (gd (decide (((List.length x5.2.2.2.2.2.1) + (List.length [y7.2.1])) ≤ lim))
 (rec (x5.1, (Op.bytesLess y9.1 y7.1), x5.2.2.1, x5.2.2.2.1, (IntKind.wrap IntKind.i64 (x5.2.2.2.2.1 + (1 : Int))), (x5.2.2.2.2.2.1 ++ [y7.2.1]), ()))))))
 (gd (decide (((List.length x5.2.2.2.2.2.1) + (List.length [y7.2.1])) ≤ lim))
 (rec (x5.1, false, x5.2.2.1, x5.2.2.2.1, (IntKind.wrap IntKind.i64 (x5.2.2.2.2.1 + (1 : Int))), (x5.2.2.2.2.2.1 ++ [y7.2.1]), ())))))
 (gd (decide (((List.length x5.2.2.2.2.2.1) + (List.length [y7.2.1])) ≤ lim))
 (rec (x5.1, false, x5.2.2.1, x5.2.2.2.1, (IntKind.wrap IntKind.i64 (x5.2.2.2.2.1 + (1 : Int))), (x5.2.2.2.2.2.1 ++ [y7.2.1]), ()))))))
 (e0_0 (x5.2.1, x5.2.2.2.2.2.1, ())))
noncomputable def F233 (a0 : D74) : Option (List (D74) × Bool × Unit) :=
 (cond (a0.1 == (4 : Int))
 (Option.bind (F243 a0) fun y1 =>
 (some (y1.1, (y1.2.1, ()))))
 (Option.bind (F215 a0) fun y2 =>
 (iter (F233_R6
 (fun y10 =>
 (some (y10.2.1, (y10.1, ()))))) fuel (y2.1, y2.2.1, y2.1, (((List.length y2.1) : Nat) : Int), (0 : Int), [], ()))))
noncomputable def C233 : Fun := ⟨[(.ro Y74)], [((.slice Y74), .z), (.bool, .z)], fun z => F233 z.1⟩
noncomputable def E233 : Env := ⟨58, tyTab tys, oneTab ones, fnTab [(120, C120), (215, C215), (243, C243)], false, [], [(3, [1], []), (6, [4, 5, 6, 22, 23, 24], []), (7, [4, 5, 6, 22, 23, 24], []), (11, [5, 6], []), (100000, [5, 6], []), (100001, [4, 5, 6, 22, 23, 24], []), (99999, [2, 3], [])], none, [], []⟩
noncomputable def L233 : List (LoopS (List (D74) × Bool × Unit)) := [⟨6, ⟨[(4, (.pv (.slice Y268))), (5, (.pv .bool)), (6, (.ref (.slice Y74) 168 [])), (22, (.pv (.slice Y268))), (23, (.pv (.int .i64))), (24, (.pv (.int .i64)))], [(168, (.data false (.slice Y74) (.own .z)))]⟩, fun κ => F233_R6 (fun y => κ.exit 0 (SSh.mk' ⟨[(5, (.pv .bool)), (6, (.ref (.slice Y74) 168 []))], [(168, (.data false (.slice Y74) (.own .z)))]⟩ y))⟩]
theorem L233_6 : RoundEq E233 L233 L233[0] (nthLoop (codeOf Tryz.f233) 0) := fun κ N x => by kernel_rfl
theorem C233_ok : QuietOk Tryz.prog 233 C233 := tQ E233 L233 [nthLoop (codeOf Tryz.f233) 0] Tryz.func233 ty_ok (.cons C120_ok (.cons C215_ok (.cons C243_ok .nil))) (.cons L233[0] (by kernel_rfl) L233_6 .nil)
noncomputable def F244_R2 (e0_0 : Unit → Option (Int × Unit)) (er_1 : Int × Unit → Option (Int × Unit)) (rec : List (D74) × (D74 → Option (Bool)) × Int × Int × Unit → Option (Int × Unit)) (x2 : List (D74) × (D74 → Option (Bool)) × Int × Int × Unit) : Option (Int × Unit) :=
 (cond (decide (x2.2.2.2.1 < x2.2.2.1))
 (gd (decide ((0 : Int) ≤ x2.2.2.2.1))
 (Option.bind x2.1[(Int.toNat x2.2.2.2.1)]? fun y5 =>
 (Option.bind (x2.2.1 y5) fun y6 =>
 (cond y6
 (er_1 (x2.2.2.2.1, ()))
 (rec (x2.1, x2.2.1, x2.2.2.1, (IntKind.wrap IntKind.i64 (x2.2.2.2.1 + (1 : Int))), ()))))))
 (e0_0 (())))
noncomputable def F244 (a0 : List (D74)) (a1 : (D74 → Option (Bool))) : Option (Int × Unit) :=
 (iter (F244_R2
 (fun y7 =>
 (some ((-(1 : Int)), ())))
 (fun y8 =>
 (some (y8.1, ())))) fuel (a0, a1, (((List.length a0) : Nat) : Int), (0 : Int), ()))
noncomputable def C244 : Fun := ⟨[(.ro (.slice Y74)), (.fn Y74 .bool)], [((.int .i64), .z)], fun z => F244 z.1 z.2.1⟩
noncomputable def E244 : Env := ⟨19, tyTab tys, oneTab ones, fnTab [], false, [], [(2, [0, 1, 7, 8], []), (3, [0, 1, 7, 8], []), (6, [0, 1, 7, 8], []), (7, [], []), (100000, [], []), (100001, [0, 1, 7, 8], []), (99999, [4], [])], none, [], []⟩
noncomputable def L244 : List (LoopS (Int × Unit)) := [⟨2, ⟨[(0, (.pv (.slice Y74))), (1, (.fnA Y74 .bool)), (7, (.pv (.int .i64))), (8, (.pv (.int .i64)))], []⟩, fun κ => F244_R2 (fun y => κ.exit 0 (SSh.mk' ⟨[], []⟩ y)) (fun y => κ.ret (SSh.mk' ⟨[(4, (.pv (.int .i64)))], []⟩ y))⟩]
theorem L244_2 : RoundEq E244 L244 L244[0] (nthLoop (codeOf Tryz.f244) 0) := fun κ N x => by kernel_rfl
theorem C244_ok : QuietOk Tryz.prog 244 C244 := tQ E244 L244 [nthLoop (codeOf Tryz.f244) 0] Tryz.func244 ty_ok .nil (.cons L244[0] (by kernel_rfl) L244_2 .nil)
noncomputable def F234 (a0 : List (D74)) (a1 : (D74 → Option (Bool))) : Option (Bool × Unit) :=
 (Option.bind (F244 a0 a1) fun y0 =>
 (some ((decide (y0.1 ≥ (0 : Int))), ())))
noncomputable def C234 : Fun := ⟨[(.ro (.slice Y74)), (.fn Y74 .bool)], [(.bool, .z)], fun z => F234 z.1 z.2.1⟩
noncomputable def E234 : Env := ⟨9, tyTab tys, oneTab ones, fnTab [(244, C244)], false, [], [(99999, [4], [])], none, [], []⟩
noncomputable def L234 : List (LoopS (Bool × Unit)) := []
theorem C234_ok : QuietOk Tryz.prog 234 C234 := tQ E234 L234 [] Tryz.func234 ty_ok (.cons C244_ok .nil) .nil
abbrev G217 : Type := (D74) → (Int) → Option (Bool × Unit)
noncomputable def H217 (g : G217) : Fun := ⟨[(.ro Y74), (.ro (.int .i64))], [(.bool, .z)], fun z => g z.1 z.2.1⟩
noncomputable def B235 (g : G217) (a0 : D74) (a1 : Int) : Option (Bool × Unit) :=
 (Option.bind (g a0 (IntKind.wrap IntKind.i64 (a1 - (1 : Int)))) fun y0 =>
 (some ((!y0.1), ())))
noncomputable def K235 (g : G217) : Fun := ⟨[(.ro Y74), (.rp (.int .i64))], [(.bool, .z)], fun z => B235 g z.1 z.2.1⟩
noncomputable def E235 (g : G217) : Env := ⟨9, tyTab tys, oneTab ones, fnTab [(217, (H217 g))], false, [], [(99999, [3], [])], none, [], []⟩
noncomputable def L235 (g : G217) : List (LoopS (Bool × Unit)) := []
theorem K235_ok (g : G217) (hg : QuietOk Tryz.prog 217 (H217 g)) : QuietOk Tryz.prog 235 (K235 g) := tQ (E235 g) (L235 g) [] Tryz.func235 ty_ok (.cons hg .nil) .nil
noncomputable def B217 (g : G217) (a0 : D74) (a1 : Int) : Option (Bool × Unit) :=
 (let j8 : Unit → Option (Bool × Unit) := fun (y9 : Unit) =>
 (some (false, ()))
 (cond (a0.1 == (0 : Int))
 (some (((decide (a0.1 = (0 : Int))) && ((decide (a0.2.1 = (0 : Int))) && ((a0.2.2.1 == []) && true))), ()))
 (cond (a0.1 == (1 : Int))
 (Option.bind (F54 a0.2.1 (0 : Int) (1 : Int)) fun y1 =>
 (cond y1.1
 (some ((a0.2.2.1 == []), ()))
 (some (false, ()))))
 (cond (a0.1 == (2 : Int))
 (Option.bind (F232 a0.2.1) fun y2 =>
 (cond y2.1
 (some ((a0.2.2.1 == []), ()))
 (some (false, ()))))
 (cond (a0.1 == (3 : Int))
 (cond (a0.2.1 == (0 : Int))
 (some ((decide ((((List.length a0.2.2.1) : Nat) : Int) ≤ (300 : Int))), ()))
 (some (false, ())))
 (cond (a0.1 == (4 : Int))
 (cond (a0.1 == (4 : Int))
 (Option.bind (F233 a0) fun y4 =>
 (cond (a0.2.1 == (0 : Int))
 (cond (decide ((((List.length a0.2.2.1) : Nat) : Int) ≤ (300 : Int)))
 (cond (decide (a1 > (0 : Int)))
 (cond y4.2.1
 (Option.bind (F234 y4.1 (fun (v6 : D74) => (Option.map (fun (v7 : (Bool × Unit)) => v7.1) (B235 g v6 a1)))) fun y5 =>
 (some ((!y5.1), ())))
 (some (false, ())))
 (some (false, ())))
 (some (false, ())))
 (some (false, ()))))
 (j8 (())))
 (cond (a0.1 == (5 : Int))
 (Option.bind (F233 a0) fun y6 =>
 (cond (a0.2.1 == (0 : Int))
 (cond (decide ((((List.length a0.2.2.1) : Nat) : Int) ≤ (300 : Int)))
 (cond (decide (a1 > (0 : Int)))
 (cond y6.2.1
 (Option.bind (F234 y6.1 (fun (v6 : D74) => (Option.map (fun (v7 : (Bool × Unit)) => v7.1) (B235 g v6 a1)))) fun y7 =>
 (some ((!y7.1), ())))
 (some (false, ())))
 (some (false, ())))
 (some (false, ())))
 (some (false, ()))))
 (j8 (())))))))))
noncomputable def K217 (g : G217) : Fun := ⟨[(.ro Y74), (.ro (.int .i64))], [(.bool, .z)], fun z => B217 g z.1 z.2.1⟩
noncomputable def E217 (g : G217) : Env := ⟨75, tyTab tys, oneTab ones, fnTab [(54, C54), (232, C232), (233, C233), (234, C234), (235, (K235 g))], false, [], [(14, [], []), (100000, [], []), (99999, [4], [])], none, [], []⟩
noncomputable def L217 (g : G217) : List (LoopS (Bool × Unit)) := []
theorem K217_ok (g : G217) (hg : QuietOk Tryz.prog 217 (H217 g)) : QuietOk Tryz.prog 217 (K217 g) := tQ (E217 g) (L217 g) [] Tryz.func217 ty_ok (.cons C54_ok (.cons C232_ok (.cons C233_ok (.cons C234_ok (.cons (K235_ok g hg) .nil))))) .nil
noncomputable def S217 : Nat → G217
  | 0 => fun _ _ => none
  | k + 1 => B217 (S217 k)
noncomputable def F217 : G217 := S217 fuel
noncomputable def C217 : Fun := H217 F217
theorem C217_all : ∀ k, QuietOk Tryz.prog 217 (H217 (S217 k))
  | 0 => QuietOk.none Tryz.func217 (by rfl) (by decide) fun _ => rfl
  | k + 1 => K217_ok (S217 k) (C217_all k)
theorem C217_ok : QuietOk Tryz.prog 217 C217 := C217_all fuel
noncomputable def F202 (a0 : D74) : Option (Bool × Unit) :=
 (Option.bind (F217 a0 (5 : Int)) fun y0 =>
 (some (y0.1, ())))
noncomputable def C202 : Fun := ⟨[(.ro Y74)], [(.bool, .z)], fun z => F202 z.1⟩
noncomputable def E202 : Env := ⟨5, tyTab tys, oneTab ones, fnTab [(217, C217)], false, [], [(99999, [2], [])], none, [], []⟩
noncomputable def L202 : List (LoopS (Bool × Unit)) := []
theorem C202_ok : QuietOk Tryz.prog 202 C202 := tQ E202 L202 [] Tryz.func202 ty_ok (.cons C217_ok .nil) .nil
noncomputable def F183 (a0 : D74) : Option (Bool × Unit) :=
 (cond (a0.1 == (5 : Int))
 (Option.bind (F202 a0) fun y0 =>
 (some (y0.1, ())))
 (some (false, ())))
noncomputable def C183 : Fun := ⟨[(.ro Y74)], [(.bool, .z)], fun z => F183 z.1⟩
noncomputable def E183 : Env := ⟨10, tyTab tys, oneTab ones, fnTab [(202, C202)], false, [], [(99999, [2], [])], none, [], []⟩
noncomputable def L183 : List (LoopS (Bool × Unit)) := []
theorem C183_ok : QuietOk Tryz.prog 183 C183 := tQ E183 L183 [] Tryz.func183 ty_ok (.cons C202_ok .nil) .nil
noncomputable def F156 (a0 : Bool) (a1 : D74) (a2 : Int) : Option (Bool × Unit) :=
 (cond a0
 (some (((decide (a1.1 = (0 : Int))) && ((decide (a1.2.1 = (0 : Int))) && ((a1.2.2.1 == []) && true))), ()))
 (Option.bind (F182 a1) fun y1 =>
 (Option.bind (F183 a1) fun y2 =>
 (cond y2.1
 (cond y1.2.1
 (some ((y1.1 == a2), ()))
 (some (false, ())))
 (some (false, ()))))))
noncomputable def C156 : Fun := ⟨[(.ro .bool), (.ro Y74), (.ro (.int .i64))], [(.bool, .z)], fun z => F156 z.1 z.2.1 z.2.2.1⟩
noncomputable def E156 : Env := ⟨28, tyTab tys, oneTab ones, fnTab [(182, C182), (183, C183)], false, [], [(3, [2, 4], []), (99999, [6], [])], none, [], []⟩
noncomputable def L156 : List (LoopS (Bool × Unit)) := []
theorem C156_ok : QuietOk Tryz.prog 156 C156 := tQ E156 L156 [] Tryz.func156 ty_ok (.cons C182_ok (.cons C183_ok .nil)) .nil
noncomputable def F119_R2 (e0_0 : D58 × Unit → Option (Bool × Unit)) (er_1 : Bool × Unit → Option (Bool × Unit)) (rec : List (D94) × Int × Int × D58 × Unit → Option (Bool × Unit)) (x2 : List (D94) × Int × Int × D58 × Unit) : Option (Bool × Unit) :=
 (cond (decide (x2.2.2.1 < x2.2.1))
 (let j10 : List (D94) × Int × Int × D58 × Unit → Option (Bool × Unit) := fun (y11 : List (D94) × Int × Int × D58 × Unit) =>
 (rec (y11.1, y11.2.1, (IntKind.wrap IntKind.i64 (y11.2.2.1 + (1 : Int))), y11.2.2.2.1, ()))
 (gd (decide ((0 : Int) ≤ x2.2.2.1))
 (Option.bind x2.1[(Int.toNat x2.2.2.1)]? fun y5 =>
 (Option.bind (F124 y5.1) fun y6 =>
 (cond (!y6.1)
 (er_1 (false, ()))
 (cond (decide (x2.2.2.1 > (0 : Int)))
 (gd (decide ((0 : Int) ≤ (IntKind.wrap IntKind.i64 (x2.2.2.1 - (1 : Int)))))
 (Option.bind x2.2.2.2.1.2.1[(Int.toNat (IntKind.wrap IntKind.i64 (x2.2.2.1 - (1 : Int))))]? fun y7 =>
 (cond (decide (y7.1 ≥ y5.1))
 (er_1 (false, ()))
 (Option.bind (F156 y5.2.1 y5.2.2.1 x2.2.2.2.1.1) fun y8 =>
 (cond (!y8.1)
 (er_1 (false, ()))
 (j10 (x2.1, x2.2.1, x2.2.2.1, x2.2.2.2.1, ())))))))
 (Option.bind (F156 y5.2.1 y5.2.2.1 x2.2.2.2.1.1) fun y9 =>
 (cond (!y9.1)
 (er_1 (false, ()))
 (j10 (x2.1, x2.2.1, x2.2.2.1, x2.2.2.2.1, ()))))))))))
 (e0_0 (x2.2.2.2.1, ())))
noncomputable def F119 (a0 : D58) : Option (Bool × Unit) :=
 (iter (F119_R2
 (fun y12 =>
 (Option.bind (F54 y12.1.1 (0 : Int) (19 : Int)) fun y14 =>
 (cond y14.1
 (Option.bind (F54 (((List.length y12.1.2.1) : Nat) : Int) (1 : Int) (12 : Int)) fun y15 =>
 (some (y15.1, ())))
 (some (false, ())))))
 (fun y13 =>
 (some (y13.1, ())))) fuel (a0.2.1, (((List.length a0.2.1) : Nat) : Int), (0 : Int), a0, ()))
noncomputable def C119 : Fun := ⟨[(.ro Y58)], [(.bool, .z)], fun z => F119 z.1⟩
noncomputable def E119 : Env := ⟨53, tyTab tys, oneTab ones, fnTab [(54, C54), (124, C124), (156, C156)], false, [], [(2, [1, 6, 7, 8], []), (3, [1, 6, 7, 8], []), (6, [1, 6, 7, 8], []), (7, [1], []), (100000, [1], []), (100001, [1, 6, 7, 8], []), (99999, [2], [])], none, [], []⟩
noncomputable def L119 : List (LoopS (Bool × Unit)) := [⟨2, ⟨[(1, (.ptr 8 [])), (6, (.pv (.slice Y94))), (7, (.pv (.int .i64))), (8, (.pv (.int .i64)))], [(8, (.data true Y58 .z))]⟩, fun κ => F119_R2 (fun y => κ.exit 0 (SSh.mk' ⟨[(1, (.ptr 8 []))], [(8, (.data true Y58 .z))]⟩ y)) (fun y => κ.ret (SSh.mk' ⟨[(2, (.pv .bool))], []⟩ y))⟩]
theorem L119_2 : RoundEq E119 L119 L119[0] (nthLoop (codeOf Tryz.f119) 0) := fun κ N x => by kernel_rfl
theorem C119_ok : QuietOk Tryz.prog 119 C119 := tQ E119 L119 [nthLoop (codeOf Tryz.f119) 0] Tryz.func119 ty_ok (.cons C54_ok (.cons C124_ok (.cons C156_ok .nil))) (.cons L119[0] (by kernel_rfl) L119_2 .nil)
noncomputable def F86_R2 (e0_0 : D55 × Unit → Option (Bool × Unit)) (er_1 : Bool × Unit → Option (Bool × Unit)) (rec : List (D158) × Int × Int × D55 × Unit → Option (Bool × Unit)) (x2 : List (D158) × Int × Int × D55 × Unit) : Option (Bool × Unit) :=
 (cond (decide (x2.2.2.1 < x2.2.1))
 (gd (decide ((0 : Int) ≤ x2.2.2.1))
 (Option.bind x2.1[(Int.toNat x2.2.2.1)]? fun y5 =>
 (Option.bind (F117 y5) fun y6 =>
 (cond (!y6.1)
 (er_1 (false, ()))
 (Option.bind (F118 x2.2.2.2.1 y5.1) fun y7 =>
 (cond (decide (y7.1 < x2.2.2.1))
 (er_1 (false, ()))
 (rec (x2.1, x2.2.1, (IntKind.wrap IntKind.i64 (x2.2.2.1 + (1 : Int))), x2.2.2.2.1, ()))))))))
 (e0_0 (x2.2.2.2.1, ())))
noncomputable def F86_R8 (e2_0 : D55 × Unit → Option (Bool × Unit)) (er_1 : Bool × Unit → Option (Bool × Unit)) (rec : List (D58) × Int × Int × D55 × Unit → Option (Bool × Unit)) (x12 : List (D58) × Int × Int × D55 × Unit) : Option (Bool × Unit) :=
 (cond (decide (x12.2.2.1 < x12.2.1))
 (let j18 : List (D58) × Int × Int × D55 × Unit → Option (Bool × Unit) := fun (y19 : List (D58) × Int × Int × D55 × Unit) =>
 (rec (y19.1, y19.2.1, (IntKind.wrap IntKind.i64 (y19.2.2.1 + (1 : Int))), y19.2.2.2.1, ()))
 (gd (decide ((0 : Int) ≤ x12.2.2.1))
 (Option.bind x12.1[(Int.toNat x12.2.2.1)]? fun y15 =>
 (Option.bind (F119 y15) fun y16 =>
 (cond (!y16.1)
 (er_1 (false, ()))
 (cond (decide (x12.2.2.1 > (0 : Int)))
 (gd (decide ((0 : Int) ≤ (IntKind.wrap IntKind.i64 (x12.2.2.1 - (1 : Int)))))
 (Option.bind x12.2.2.2.1.2.1[(Int.toNat (IntKind.wrap IntKind.i64 (x12.2.2.1 - (1 : Int))))]? fun y17 =>
 (cond (decide (y17.1 ≥ y15.1))
 (er_1 (false, ()))
 (j18 (x12.1, x12.2.1, x12.2.2.1, x12.2.2.2.1, ())))))
 (j18 (x12.1, x12.2.1, x12.2.2.1, x12.2.2.2.1, ()))))))))
 (e2_0 (x12.2.2.2.1, ())))
noncomputable def F86 (a0 : D55) : Option (Bool × Unit) :=
 (iter (F86_R2
 (fun y8 =>
 (iter (F86_R8
 (fun y20 =>
 (Option.bind (F120 y20.1.1) fun y22 =>
 (cond y22.1
 (some ((decide ((((List.length y20.1.2.2.1) : Nat) : Int) ≤ (3 : Int))), ()))
 (some (false, ())))))
 (fun y21 =>
 (some (y21.1, ())))) fuel (y8.1.2.1, (((List.length y8.1.2.1) : Nat) : Int), (0 : Int), y8.1, ())))
 (fun y9 =>
 (some (y9.1, ())))) fuel (a0.2.2.1, (((List.length a0.2.2.1) : Nat) : Int), (0 : Int), a0, ()))
noncomputable def C86 : Fun := ⟨[(.ro Y55)], [(.bool, .z)], fun z => F86 z.1⟩
noncomputable def E86 : Env := ⟨64, tyTab tys, oneTab ones, fnTab [(117, C117), (118, C118), (119, C119), (120, C120)], false, [], [(2, [1, 8, 9, 10], []), (3, [1, 8, 9, 10], []), (6, [1, 8, 9, 10], []), (7, [1], []), (8, [1, 28, 29, 30], []), (9, [1, 28, 29, 30], []), (12, [1, 28, 29, 30], []), (13, [1], []), (100000, [1], []), (100001, [1, 8, 9, 10], []), (100002, [1], []), (100003, [1, 28, 29, 30], []), (99999, [2], [])], none, [], []⟩
noncomputable def L86 : List (LoopS (Bool × Unit)) := [⟨2, ⟨[(1, (.ptr 8 [])), (8, (.pv (.slice Y158))), (9, (.pv (.int .i64))), (10, (.pv (.int .i64)))], [(8, (.data true Y55 .z))]⟩, fun κ => F86_R2 (fun y => κ.exit 0 (SSh.mk' ⟨[(1, (.ptr 8 []))], [(8, (.data true Y55 .z))]⟩ y)) (fun y => κ.ret (SSh.mk' ⟨[(2, (.pv .bool))], []⟩ y))⟩,
  ⟨8, ⟨[(1, (.ptr 8 [])), (28, (.pv (.slice Y58))), (29, (.pv (.int .i64))), (30, (.pv (.int .i64)))], [(8, (.data true Y55 .z))]⟩, fun κ => F86_R8 (fun y => κ.exit 2 (SSh.mk' ⟨[(1, (.ptr 8 []))], [(8, (.data true Y55 .z))]⟩ y)) (fun y => κ.ret (SSh.mk' ⟨[(2, (.pv .bool))], []⟩ y))⟩]
theorem L86_8 : RoundEq E86 L86 L86[1] (nthLoop (codeOf Tryz.f86) 1) := fun κ N x => by kernel_rfl
theorem L86_2 : RoundEq E86 L86 L86[0] (nthLoop (codeOf Tryz.f86) 0) := fun κ N x => by kernel_rfl
theorem C86_ok : QuietOk Tryz.prog 86 C86 := tQ E86 L86 [nthLoop (codeOf Tryz.f86) 0, nthLoop (codeOf Tryz.f86) 1] Tryz.func86 ty_ok (.cons C117_ok (.cons C118_ok (.cons C119_ok (.cons C120_ok .nil)))) (.cons L86[0] (by kernel_rfl) L86_2 (.cons L86[1] (by kernel_rfl) L86_8 .nil))
noncomputable def F52_R2 (e0_0 : List (D55) × Unit → Option (Bool × Unit)) (er_1 : Bool × Unit → Option (Bool × Unit)) (rec : List (D55) × List (D55) × Int × Int × Unit → Option (Bool × Unit)) (x2 : List (D55) × List (D55) × Int × Int × Unit) : Option (Bool × Unit) :=
 (cond (decide (x2.2.2.2.1 < x2.2.2.1))
 (let j8 : List (D55) × List (D55) × Int × Int × Unit → Option (Bool × Unit) := fun (y9 : List (D55) × List (D55) × Int × Int × Unit) =>
 (rec (y9.1, y9.2.1, y9.2.2.1, (IntKind.wrap IntKind.i64 (y9.2.2.2.1 + (1 : Int))), ()))
 (gd (decide ((0 : Int) ≤ x2.2.2.2.1))
 (Option.bind x2.2.1[(Int.toNat x2.2.2.2.1)]? fun y5 =>
 (Option.bind (F86 y5) fun y6 =>
 (cond (!y6.1)
 (er_1 (false, ()))
 (cond (decide (x2.2.2.2.1 > (0 : Int)))
 (gd (decide ((0 : Int) ≤ (IntKind.wrap IntKind.i64 (x2.2.2.2.1 - (1 : Int)))))
 (Option.bind x2.1[(Int.toNat (IntKind.wrap IntKind.i64 (x2.2.2.2.1 - (1 : Int))))]? fun y7 =>
 (cond (!(Op.bytesLess y7.1 y5.1))
 (er_1 (false, ()))
 (j8 (x2.1, x2.2.1, x2.2.2.1, x2.2.2.2.1, ())))))
 (j8 (x2.1, x2.2.1, x2.2.2.1, x2.2.2.2.1, ()))))))))
 (e0_0 (x2.1, ())))
noncomputable def F52 (a0 : List (D55)) : Option (Bool × Unit) :=
 (iter (F52_R2
 (fun y10 =>
 (some ((decide ((((List.length y10.1) : Nat) : Int) ≤ (3 : Int))), ())))
 (fun y11 =>
 (some (y11.1, ())))) fuel (a0, a0, (((List.length a0) : Nat) : Int), (0 : Int), ()))
noncomputable def C52 : Fun := ⟨[(.ro (.slice Y55))], [(.bool, .z)], fun z => F52 z.1⟩
noncomputable def E52 : Env := ⟨34, tyTab tys, oneTab ones, fnTab [(86, C86)], false, [], [(2, [0, 5, 6, 7], []), (3, [0, 5, 6, 7], []), (6, [0, 5, 6, 7], []), (7, [0], []), (100000, [0], []), (100001, [0, 5, 6, 7], []), (99999, [2], [])], none, [], []⟩
noncomputable def L52 : List (LoopS (Bool × Unit)) := [⟨2, ⟨[(0, (.pv (.slice Y55))), (5, (.pv (.slice Y55))), (6, (.pv (.int .i64))), (7, (.pv (.int .i64)))], []⟩, fun κ => F52_R2 (fun y => κ.exit 0 (SSh.mk' ⟨[(0, (.pv (.slice Y55)))], []⟩ y)) (fun y => κ.ret (SSh.mk' ⟨[(2, (.pv .bool))], []⟩ y))⟩]
theorem L52_2 : RoundEq E52 L52 L52[0] (nthLoop (codeOf Tryz.f52) 0) := fun κ N x => by kernel_rfl
theorem C52_ok : QuietOk Tryz.prog 52 C52 := tQ E52 L52 [nthLoop (codeOf Tryz.f52) 0] Tryz.func52 ty_ok (.cons C86_ok .nil) (.cons L52[0] (by kernel_rfl) L52_2 .nil)
noncomputable def F158_R2 (e0_0 : Unit → Option (Int × Unit)) (er_1 : Int × Unit → Option (Int × Unit)) (rec : List (D162) × (D162 → Option (Bool)) × Int × Int × Unit → Option (Int × Unit)) (x2 : List (D162) × (D162 → Option (Bool)) × Int × Int × Unit) : Option (Int × Unit) :=
 (cond (decide (x2.2.2.2.1 < x2.2.2.1))
 (gd (decide ((0 : Int) ≤ x2.2.2.2.1))
 (Option.bind x2.1[(Int.toNat x2.2.2.2.1)]? fun y5 =>
 (Option.bind (x2.2.1 y5) fun y6 =>
 (cond y6
 (er_1 (x2.2.2.2.1, ()))
 (rec (x2.1, x2.2.1, x2.2.2.1, (IntKind.wrap IntKind.i64 (x2.2.2.2.1 + (1 : Int))), ()))))))
 (e0_0 (())))
noncomputable def F158 (a0 : List (D162)) (a1 : (D162 → Option (Bool))) : Option (Int × Unit) :=
 (iter (F158_R2
 (fun y7 =>
 (some ((-(1 : Int)), ())))
 (fun y8 =>
 (some (y8.1, ())))) fuel (a0, a1, (((List.length a0) : Nat) : Int), (0 : Int), ()))
noncomputable def C158 : Fun := ⟨[(.ro (.slice Y162)), (.fn Y162 .bool)], [((.int .i64), .z)], fun z => F158 z.1 z.2.1⟩
noncomputable def E158 : Env := ⟨19, tyTab tys, oneTab ones, fnTab [], false, [], [(2, [0, 1, 7, 8], []), (3, [0, 1, 7, 8], []), (6, [0, 1, 7, 8], []), (7, [], []), (100000, [], []), (100001, [0, 1, 7, 8], []), (99999, [4], [])], none, [], []⟩
noncomputable def L158 : List (LoopS (Int × Unit)) := [⟨2, ⟨[(0, (.pv (.slice Y162))), (1, (.fnA Y162 .bool)), (7, (.pv (.int .i64))), (8, (.pv (.int .i64)))], []⟩, fun κ => F158_R2 (fun y => κ.exit 0 (SSh.mk' ⟨[], []⟩ y)) (fun y => κ.ret (SSh.mk' ⟨[(4, (.pv (.int .i64)))], []⟩ y))⟩]
theorem L158_2 : RoundEq E158 L158 L158[0] (nthLoop (codeOf Tryz.f158) 0) := fun κ N x => by kernel_rfl
theorem C158_ok : QuietOk Tryz.prog 158 C158 := tQ E158 L158 [nthLoop (codeOf Tryz.f158) 0] Tryz.func158 ty_ok .nil (.cons L158[0] (by kernel_rfl) L158_2 .nil)
noncomputable def F121 (a0 : List (D162)) (a1 : (D162 → Option (Bool))) : Option (Bool × Unit) :=
 (Option.bind (F158 a0 a1) fun y0 =>
 (some ((decide (y0.1 ≥ (0 : Int))), ())))
noncomputable def C121 : Fun := ⟨[(.ro (.slice Y162)), (.fn Y162 .bool)], [(.bool, .z)], fun z => F121 z.1 z.2.1⟩
noncomputable def E121 : Env := ⟨9, tyTab tys, oneTab ones, fnTab [(158, C158)], false, [], [(99999, [4], [])], none, [], []⟩
noncomputable def L121 : List (LoopS (Bool × Unit)) := []
theorem C121_ok : QuietOk Tryz.prog 121 C121 := tQ E121 L121 [] Tryz.func121 ty_ok (.cons C158_ok .nil) .nil
noncomputable def F123 (a0 : D162) (a1 : D162) : Option (Bool × Unit) :=
 (cond (a0.1.1 == a1.1.1)
 (some ((a0.1.2.1 == a1.1.2.1), ()))
 (some (false, ())))
noncomputable def C123 : Fun := ⟨[(.ro Y162), (.ro Y162)], [(.bool, .z)], fun z => F123 z.1 z.2.1⟩
noncomputable def E123 : Env := ⟨21, tyTab tys, oneTab ones, fnTab [], false, [], [(99999, [4], [])], none, [], []⟩
noncomputable def L123 : List (LoopS (Bool × Unit)) := []
theorem C123_ok : QuietOk Tryz.prog 123 C123 := tQ E123 L123 [] Tryz.func123 ty_ok .nil .nil
noncomputable def F122 (a0 : D162) (a1 : D162) : Option (Bool × Unit) :=
 (Option.bind (F123 a1 a0) fun y0 =>
 (some (y0.1, ())))
noncomputable def C122 : Fun := ⟨[(.ro Y162), (.rp Y162)], [(.bool, .z)], fun z => F122 z.1 z.2.1⟩
noncomputable def E122 : Env := ⟨7, tyTab tys, oneTab ones, fnTab [(123, C123)], false, [], [(99999, [3], [])], none, [], []⟩
noncomputable def L122 : List (LoopS (Bool × Unit)) := []
theorem C122_ok : QuietOk Tryz.prog 122 C122 := tQ E122 L122 [] Tryz.func122 ty_ok (.cons C123_ok .nil) .nil
noncomputable def F186_R2 (e0_0 : Unit → Option (Int × Unit)) (er_1 : Int × Unit → Option (Int × Unit)) (rec : List (D139) × (D139 → Option (Bool)) × Int × Int × Unit → Option (Int × Unit)) (x2 : List (D139) × (D139 → Option (Bool)) × Int × Int × Unit) : Option (Int × Unit) :=
 (cond (decide (x2.2.2.2.1 < x2.2.2.1))
 (gd (decide ((0 : Int) ≤ x2.2.2.2.1))
 (Option.bind x2.1[(Int.toNat x2.2.2.2.1)]? fun y5 =>
 (Option.bind (x2.2.1 y5) fun y6 =>
 (cond y6
 (er_1 (x2.2.2.2.1, ()))
 (rec (x2.1, x2.2.1, x2.2.2.1, (IntKind.wrap IntKind.i64 (x2.2.2.2.1 + (1 : Int))), ()))))))
 (e0_0 (())))
noncomputable def F186 (a0 : List (D139)) (a1 : (D139 → Option (Bool))) : Option (Int × Unit) :=
 (iter (F186_R2
 (fun y7 =>
 (some ((-(1 : Int)), ())))
 (fun y8 =>
 (some (y8.1, ())))) fuel (a0, a1, (((List.length a0) : Nat) : Int), (0 : Int), ()))
noncomputable def C186 : Fun := ⟨[(.ro (.slice Y139)), (.fn Y139 .bool)], [((.int .i64), .z)], fun z => F186 z.1 z.2.1⟩
noncomputable def E186 : Env := ⟨19, tyTab tys, oneTab ones, fnTab [], false, [], [(2, [0, 1, 7, 8], []), (3, [0, 1, 7, 8], []), (6, [0, 1, 7, 8], []), (7, [], []), (100000, [], []), (100001, [0, 1, 7, 8], []), (99999, [4], [])], none, [], []⟩
noncomputable def L186 : List (LoopS (Int × Unit)) := [⟨2, ⟨[(0, (.pv (.slice Y139))), (1, (.fnA Y139 .bool)), (7, (.pv (.int .i64))), (8, (.pv (.int .i64)))], []⟩, fun κ => F186_R2 (fun y => κ.exit 0 (SSh.mk' ⟨[], []⟩ y)) (fun y => κ.ret (SSh.mk' ⟨[(4, (.pv (.int .i64)))], []⟩ y))⟩]
theorem L186_2 : RoundEq E186 L186 L186[0] (nthLoop (codeOf Tryz.f186) 0) := fun κ N x => by kernel_rfl
theorem C186_ok : QuietOk Tryz.prog 186 C186 := tQ E186 L186 [nthLoop (codeOf Tryz.f186) 0] Tryz.func186 ty_ok .nil (.cons L186[0] (by kernel_rfl) L186_2 .nil)
noncomputable def F159 (a0 : List (D139)) (a1 : (D139 → Option (Bool))) : Option (Bool × Unit) :=
 (Option.bind (F186 a0 a1) fun y0 =>
 (some ((decide (y0.1 ≥ (0 : Int))), ())))
noncomputable def C159 : Fun := ⟨[(.ro (.slice Y139)), (.fn Y139 .bool)], [(.bool, .z)], fun z => F159 z.1 z.2.1⟩
noncomputable def E159 : Env := ⟨9, tyTab tys, oneTab ones, fnTab [(186, C186)], false, [], [(99999, [4], [])], none, [], []⟩
noncomputable def L159 : List (LoopS (Bool × Unit)) := []
theorem C159_ok : QuietOk Tryz.prog 159 C159 := tQ E159 L159 [] Tryz.func159 ty_ok (.cons C186_ok .nil) .nil
noncomputable def F218_R2 (e0_0 : Unit → Option (Int × Unit)) (er_1 : Int × Unit → Option (Int × Unit)) (rec : List (D213) × (D213 → Option (Bool)) × Int × Int × Unit → Option (Int × Unit)) (x2 : List (D213) × (D213 → Option (Bool)) × Int × Int × Unit) : Option (Int × Unit) :=
 (cond (decide (x2.2.2.2.1 < x2.2.2.1))
 (gd (decide ((0 : Int) ≤ x2.2.2.2.1))
 (Option.bind x2.1[(Int.toNat x2.2.2.2.1)]? fun y5 =>
 (Option.bind (x2.2.1 y5) fun y6 =>
 (cond y6
 (er_1 (x2.2.2.2.1, ()))
 (rec (x2.1, x2.2.1, x2.2.2.1, (IntKind.wrap IntKind.i64 (x2.2.2.2.1 + (1 : Int))), ()))))))
 (e0_0 (())))
noncomputable def F218 (a0 : List (D213)) (a1 : (D213 → Option (Bool))) : Option (Int × Unit) :=
 (iter (F218_R2
 (fun y7 =>
 (some ((-(1 : Int)), ())))
 (fun y8 =>
 (some (y8.1, ())))) fuel (a0, a1, (((List.length a0) : Nat) : Int), (0 : Int), ()))
noncomputable def C218 : Fun := ⟨[(.ro (.slice Y213)), (.fn Y213 .bool)], [((.int .i64), .z)], fun z => F218 z.1 z.2.1⟩
noncomputable def E218 : Env := ⟨19, tyTab tys, oneTab ones, fnTab [], false, [], [(2, [0, 1, 7, 8], []), (3, [0, 1, 7, 8], []), (6, [0, 1, 7, 8], []), (7, [], []), (100000, [], []), (100001, [0, 1, 7, 8], []), (99999, [4], [])], none, [], []⟩
noncomputable def L218 : List (LoopS (Int × Unit)) := [⟨2, ⟨[(0, (.pv (.slice Y213))), (1, (.fnA Y213 .bool)), (7, (.pv (.int .i64))), (8, (.pv (.int .i64)))], []⟩, fun κ => F218_R2 (fun y => κ.exit 0 (SSh.mk' ⟨[], []⟩ y)) (fun y => κ.ret (SSh.mk' ⟨[(4, (.pv (.int .i64)))], []⟩ y))⟩]
theorem L218_2 : RoundEq E218 L218 L218[0] (nthLoop (codeOf Tryz.f218) 0) := fun κ N x => by kernel_rfl
theorem C218_ok : QuietOk Tryz.prog 218 C218 := tQ E218 L218 [nthLoop (codeOf Tryz.f218) 0] Tryz.func218 ty_ok .nil (.cons L218[0] (by kernel_rfl) L218_2 .nil)
noncomputable def F203 (a0 : List (D213)) (a1 : (D213 → Option (Bool))) : Option (Bool × Unit) :=
 (Option.bind (F218 a0 a1) fun y0 =>
 (some ((decide (y0.1 ≥ (0 : Int))), ())))
noncomputable def C203 : Fun := ⟨[(.ro (.slice Y213)), (.fn Y213 .bool)], [(.bool, .z)], fun z => F203 z.1 z.2.1⟩
noncomputable def E203 : Env := ⟨9, tyTab tys, oneTab ones, fnTab [(218, C218)], false, [], [(99999, [4], [])], none, [], []⟩
noncomputable def L203 : List (LoopS (Bool × Unit)) := []
theorem C203_ok : QuietOk Tryz.prog 203 C203 := tQ E203 L203 [] Tryz.func203 ty_ok (.cons C218_ok .nil) .nil
noncomputable def F219_R2 (e0_0 : Unit → Option (Int × Unit)) (er_1 : Int × Unit → Option (Int × Unit)) (rec : List (D222) × (D222 → Option (Bool)) × Int × Int × Unit → Option (Int × Unit)) (x2 : List (D222) × (D222 → Option (Bool)) × Int × Int × Unit) : Option (Int × Unit) :=
 (cond (decide (x2.2.2.2.1 < x2.2.2.1))
 (gd (decide ((0 : Int) ≤ x2.2.2.2.1))
 (Option.bind x2.1[(Int.toNat x2.2.2.2.1)]? fun y5 =>
 (Option.bind (x2.2.1 y5) fun y6 =>
 (cond y6
 (er_1 (x2.2.2.2.1, ()))
 (rec (x2.1, x2.2.1, x2.2.2.1, (IntKind.wrap IntKind.i64 (x2.2.2.2.1 + (1 : Int))), ()))))))
 (e0_0 (())))
noncomputable def F219 (a0 : List (D222)) (a1 : (D222 → Option (Bool))) : Option (Int × Unit) :=
 (iter (F219_R2
 (fun y7 =>
 (some ((-(1 : Int)), ())))
 (fun y8 =>
 (some (y8.1, ())))) fuel (a0, a1, (((List.length a0) : Nat) : Int), (0 : Int), ()))
noncomputable def C219 : Fun := ⟨[(.ro (.slice Y222)), (.fn Y222 .bool)], [((.int .i64), .z)], fun z => F219 z.1 z.2.1⟩
noncomputable def E219 : Env := ⟨19, tyTab tys, oneTab ones, fnTab [], false, [], [(2, [0, 1, 7, 8], []), (3, [0, 1, 7, 8], []), (6, [0, 1, 7, 8], []), (7, [], []), (100000, [], []), (100001, [0, 1, 7, 8], []), (99999, [4], [])], none, [], []⟩
noncomputable def L219 : List (LoopS (Int × Unit)) := [⟨2, ⟨[(0, (.pv (.slice Y222))), (1, (.fnA Y222 .bool)), (7, (.pv (.int .i64))), (8, (.pv (.int .i64)))], []⟩, fun κ => F219_R2 (fun y => κ.exit 0 (SSh.mk' ⟨[], []⟩ y)) (fun y => κ.ret (SSh.mk' ⟨[(4, (.pv (.int .i64)))], []⟩ y))⟩]
theorem L219_2 : RoundEq E219 L219 L219[0] (nthLoop (codeOf Tryz.f219) 0) := fun κ N x => by kernel_rfl
theorem C219_ok : QuietOk Tryz.prog 219 C219 := tQ E219 L219 [nthLoop (codeOf Tryz.f219) 0] Tryz.func219 ty_ok .nil (.cons L219[0] (by kernel_rfl) L219_2 .nil)
noncomputable def F205 (a0 : List (D222)) (a1 : (D222 → Option (Bool))) : Option (Bool × Unit) :=
 (Option.bind (F219 a0 a1) fun y0 =>
 (some ((decide (y0.1 ≥ (0 : Int))), ())))
noncomputable def C205 : Fun := ⟨[(.ro (.slice Y222)), (.fn Y222 .bool)], [(.bool, .z)], fun z => F205 z.1 z.2.1⟩
noncomputable def E205 : Env := ⟨9, tyTab tys, oneTab ones, fnTab [(219, C219)], false, [], [(99999, [4], [])], none, [], []⟩
noncomputable def L205 : List (LoopS (Bool × Unit)) := []
theorem C205_ok : QuietOk Tryz.prog 205 C205 := tQ E205 L205 [] Tryz.func205 ty_ok (.cons C219_ok .nil) .nil
noncomputable def F207 (a0 : D222) : Option (Bool × Unit) :=
 (Option.bind (F181 a0.2.1) fun y1 =>
 (cond (!y1.1)
 (some (false, ()))
 (Option.bind (F202 a0.2.2.1) fun y2 =>
 (cond (!y2.1)
 (some (false, ()))
 (cond (a0.1 == (7 : Int))
 (some ((a0.2.2.1.1 == (4 : Int)), ()))
 (cond (a0.1 == (8 : Int))
 (some ((a0.2.2.1.1 == (1 : Int)), ()))
 (cond (a0.1 == (9 : Int))
 (cond (a0.2.2.1.1 == (2 : Int))
 (Option.bind (F54 a0.2.2.1.2.1 (0 : Int) (5 : Int)) fun y4 =>
 (some (y4.1, ())))
 (some (false, ())))
 (cond (a0.1 == (10 : Int))
 (cond (a0.2.2.1.1 == (2 : Int))
 (some ((decide (a0.2.2.1.2.1 ≥ (0 : Int))), ()))
 (some (false, ())))
 (Option.bind (F54 a0.1 (1 : Int) (6 : Int)) fun y5 =>
 (some (y5.1, ())))))))))))
noncomputable def C207 : Fun := ⟨[(.ro Y222)], [(.bool, .z)], fun z => F207 z.1⟩
noncomputable def E207 : Env := ⟨54, tyTab tys, oneTab ones, fnTab [(54, C54), (181, C181), (202, C202)], false, [], [(3, [1], []), (12, [1], []), (100000, [1], []), (99999, [2], [])], none, [], []⟩
noncomputable def L207 : List (LoopS (Bool × Unit)) := []
theorem C207_ok : QuietOk Tryz.prog 207 C207 := tQ E207 L207 [] Tryz.func207 ty_ok (.cons C54_ok (.cons C181_ok (.cons C202_ok .nil))) .nil
noncomputable def F206 (a0 : D222) : Option (Bool × Unit) :=
 (Option.bind (F207 a0) fun y0 =>
 (some ((!y0.1), ())))
noncomputable def C206 : Fun := ⟨[(.ro Y222)], [(.bool, .z)], fun z => F206 z.1⟩
noncomputable def E206 : Env := ⟨6, tyTab tys, oneTab ones, fnTab [(207, C207)], false, [], [(99999, [2], [])], none, [], []⟩
noncomputable def L206 : List (LoopS (Bool × Unit)) := []
theorem C206_ok : QuietOk Tryz.prog 206 C206 := tQ E206 L206 [] Tryz.func206 ty_ok (.cons C207_ok .nil) .nil
noncomputable def F204 (a0 : D213) : Option (Bool × Unit) :=
 (cond (decide ((((List.length a0.1) : Nat) : Int) > (4 : Int)))
 (some (true, ()))
 (Option.bind (F205 a0.1 (fun (v2 : D222) => (Option.map (fun (v3 : (Bool × Unit)) => v3.1) (F206 v2)))) fun y0 =>
 (some (y0.1, ()))))
noncomputable def C204 : Fun := ⟨[(.ro Y213)], [(.bool, .z)], fun z => F204 z.1⟩
noncomputable def E204 : Env := ⟨12, tyTab tys, oneTab ones, fnTab [(205, C205), (206, C206)], false, [], [(99999, [2], [])], none, [], []⟩
noncomputable def L204 : List (LoopS (Bool × Unit)) := []
theorem C204_ok : QuietOk Tryz.prog 204 C204 := tQ E204 L204 [] Tryz.func204 ty_ok (.cons C205_ok (.cons C206_ok .nil)) .nil
noncomputable def F187 (a0 : D137) : Option (Bool × Unit) :=
 (Option.bind (F54 (((List.length a0.1) : Nat) : Int) (1 : Int) (3 : Int)) fun y0 =>
 (cond y0.1
 (Option.bind (F203 a0.1 (fun (v3 : D213) => (Option.map (fun (v4 : (Bool × Unit)) => v4.1) (F204 v3)))) fun y1 =>
 (some ((!y1.1), ())))
 (some (false, ()))))
noncomputable def C187 : Fun := ⟨[(.ro Y137)], [(.bool, .z)], fun z => F187 z.1⟩
noncomputable def E187 : Env := ⟨13, tyTab tys, oneTab ones, fnTab [(54, C54), (203, C203), (204, C204)], false, [], [(99999, [2], [])], none, [], []⟩
noncomputable def L187 : List (LoopS (Bool × Unit)) := []
theorem C187_ok : QuietOk Tryz.prog 187 C187 := tQ E187 L187 [] Tryz.func187 ty_ok (.cons C54_ok (.cons C203_ok (.cons C204_ok .nil))) .nil
noncomputable def F161 (a0 : D139) : Option (Bool × Unit) :=
 (Option.bind (F120 a0.1) fun y0 =>
 (cond y0.1
 (Option.bind (F187 a0.2.1) fun y1 =>
 (some (y1.1, ())))
 (some (false, ()))))
noncomputable def C161 : Fun := ⟨[(.ro Y139)], [(.bool, .z)], fun z => F161 z.1⟩
noncomputable def E161 : Env := ⟨11, tyTab tys, oneTab ones, fnTab [(120, C120), (187, C187)], false, [], [(99999, [2], [])], none, [], []⟩
noncomputable def L161 : List (LoopS (Bool × Unit)) := []
theorem C161_ok : QuietOk Tryz.prog 161 C161 := tQ E161 L161 [] Tryz.func161 ty_ok (.cons C120_ok (.cons C187_ok .nil)) .nil
noncomputable def F160 (a0 : D139) : Option (Bool × Unit) :=
 (Option.bind (F161 a0) fun y0 =>
 (some ((!y0.1), ())))
noncomputable def C160 : Fun := ⟨[(.ro Y139)], [(.bool, .z)], fun z => F160 z.1⟩
noncomputable def E160 : Env := ⟨6, tyTab tys, oneTab ones, fnTab [(161, C161)], false, [], [(99999, [2], [])], none, [], []⟩
noncomputable def L160 : List (LoopS (Bool × Unit)) := []
theorem C160_ok : QuietOk Tryz.prog 160 C160 := tQ E160 L160 [] Tryz.func160 ty_ok (.cons C161_ok .nil) .nil
noncomputable def F125 (a0 : List (D139)) : Option (Bool × Unit) :=
 (Option.bind (F159 a0 (fun (v2 : D139) => (Option.map (fun (v3 : (Bool × Unit)) => v3.1) (F160 v2)))) fun y0 =>
 (some ((!y0.1), ())))
noncomputable def C125 : Fun := ⟨[(.ro (.slice Y139))], [(.bool, .z)], fun z => F125 z.1⟩
noncomputable def E125 : Env := ⟨6, tyTab tys, oneTab ones, fnTab [(159, C159), (160, C160)], false, [], [(99999, [2], [])], none, [], []⟩
noncomputable def L125 : List (LoopS (Bool × Unit)) := []
theorem C125_ok : QuietOk Tryz.prog 125 C125 := tQ E125 L125 [] Tryz.func125 ty_ok (.cons C159_ok (.cons C160_ok .nil)) .nil
noncomputable def F127 (a0 : D101) : Option (Bool × Unit) :=
 (Option.bind (F120 a0.1) fun y0 =>
 (cond y0.1
 (Option.bind (F54 a0.2.1 (0 : Int) (19 : Int)) fun y1 =>
 (cond y1.1
 (Option.bind (F156 a0.2.2.1 a0.2.2.2.1 a0.2.1) fun y2 =>
 (some (y2.1, ())))
 (some (false, ()))))
 (some (false, ()))))
noncomputable def C127 : Fun := ⟨[(.ro Y101)], [(.bool, .z)], fun z => F127 z.1⟩
noncomputable def E127 : Env := ⟨20, tyTab tys, oneTab ones, fnTab [(54, C54), (120, C120), (156, C156)], false, [], [(99999, [2], [])], none, [], []⟩
noncomputable def L127 : List (LoopS (Bool × Unit)) := []
theorem C127_ok : QuietOk Tryz.prog 127 C127 := tQ E127 L127 [] Tryz.func127 ty_ok (.cons C54_ok (.cons C120_ok (.cons C156_ok .nil))) .nil
noncomputable def F163 (a0 : D162) : Option (Bool × Unit) :=
 (Option.bind (F127 a0.1) fun y0 =>
 (cond y0.1
 (Option.bind (F156 (!a0.2.2.1) a0.2.1 a0.1.2.1) fun y1 =>
 (some (y1.1, ())))
 (some (false, ()))))
noncomputable def C163 : Fun := ⟨[(.ro Y162)], [(.bool, .z)], fun z => F163 z.1⟩
noncomputable def E163 : Env := ⟨17, tyTab tys, oneTab ones, fnTab [(127, C127), (156, C156)], false, [], [(99999, [2], [])], none, [], []⟩
noncomputable def L163 : List (LoopS (Bool × Unit)) := []
theorem C163_ok : QuietOk Tryz.prog 163 C163 := tQ E163 L163 [] Tryz.func163 ty_ok (.cons C127_ok (.cons C156_ok .nil)) .nil
noncomputable def F162 (a0 : D162) : Option (Bool × Unit) :=
 (Option.bind (F163 a0) fun y0 =>
 (some ((!y0.1), ())))
noncomputable def C162 : Fun := ⟨[(.ro Y162)], [(.bool, .z)], fun z => F162 z.1⟩
noncomputable def E162 : Env := ⟨6, tyTab tys, oneTab ones, fnTab [(163, C163)], false, [], [(99999, [2], [])], none, [], []⟩
noncomputable def L162 : List (LoopS (Bool × Unit)) := []
theorem C162_ok : QuietOk Tryz.prog 162 C162 := tQ E162 L162 [] Tryz.func162 ty_ok (.cons C163_ok .nil) .nil
noncomputable def F126 (a0 : List (D162)) : Option (Bool × Unit) :=
 (Option.bind (F121 a0 (fun (v2 : D162) => (Option.map (fun (v3 : (Bool × Unit)) => v3.1) (F162 v2)))) fun y0 =>
 (some ((!y0.1), ())))
noncomputable def C126 : Fun := ⟨[(.ro (.slice Y162))], [(.bool, .z)], fun z => F126 z.1⟩
noncomputable def E126 : Env := ⟨6, tyTab tys, oneTab ones, fnTab [(121, C121), (162, C162)], false, [], [(99999, [2], [])], none, [], []⟩
noncomputable def L126 : List (LoopS (Bool × Unit)) := []
theorem C126_ok : QuietOk Tryz.prog 126 C126 := tQ E126 L126 [] Tryz.func126 ty_ok (.cons C121_ok (.cons C162_ok .nil)) .nil
end Go.V
