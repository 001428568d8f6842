/- What functions of the program compute, printed by a program of ours. No condition. -/
import Derived.Test.YtmdhdagmebffjaaGreatDoorWF2
namespace Go.V
open Go.Proofs
set_option maxRecDepth 100000
set_option linter.unusedVariables false
noncomputable def F194_R2 (e0_0 : D187 × List (D244) × Unit → Option (List (D244) × Bool × Unit)) (rec : D187 × List (D244) × Unit → Option (List (D244) × Bool × Unit)) (x2 : D187 × List (D244) × Unit) : Option (List (D244) × Bool × Unit) :=
 (cond (!(x2.1.1 == []))
 (cond (!x2.1.2.1)
 (Option.bind (F207 x2.1 (1 : Int)) fun y4 =>
 (Option.bind (F206 y4.2.1 y4.1) fun y5 =>
 (Option.bind (F208 y5.2.1) fun y6 =>
 (gd (decide (((List.length x2.2.1) + (List.length [(y5.1, (y6.1, ()))])) ≤ lim))
 (rec (y6.2.1, (x2.2.1 ++ [(y5.1, (y6.1, ()))]), ()))))))
 (e0_0 (x2.1, x2.2.1, ())))
 (e0_0 (x2.1, x2.2.1, ())))
noncomputable def F194 (a0 : D72) : Option (List (D244) × Bool × Unit) :=
 (iter (F194_R2
 (fun y7 =>
 (some (y7.2.1, ((!y7.1.2.1), ()))))) fuel ((a0.2.2.1, (false, ())), [], ()))
noncomputable def C194 : Fun := ⟨[(.ro Y72)], [((.slice Y244), .z), (.bool, .z)], fun z => F194 z.1⟩
noncomputable def E194 : Env := ⟨39, tyTab tys, oneTab ones, fnTab [(206, C206), (207, C207), (208, C208)], false, [], [(2, [4, 5], []), (3, [4, 5], []), (4, [4, 5], []), (100000, [4, 5], []), (100001, [4, 5], []), (99999, [2, 3], [])], none, [], []⟩
noncomputable def L194 : List (LoopS (List (D244) × Bool × Unit)) := [⟨2, ⟨[(4, (.ptr 72 [])), (5, (.ref (.slice Y244) 80 []))], [(72, (.data true Y187 .z)), (80, (.data false (.slice Y244) (.own .z)))]⟩, fun κ => F194_R2 (fun y => κ.exit 0 (SSh.mk' ⟨[(4, (.ptr 72 [])), (5, (.ref (.slice Y244) 80 []))], [(72, (.data true Y187 .z)), (80, (.data false (.slice Y244) (.own .z)))]⟩ y))⟩]
theorem L194_2 : RoundEq E194 L194 L194[0] (nthLoop (codeOf Tryz.f194) 0) := fun κ N x => by kernel_rfl
theorem C194_ok : QuietOk Tryz.prog 194 C194 := tQ E194 L194 [nthLoop (codeOf Tryz.f194) 0] Tryz.func194 ty_ok (.consIo C206_ok (.consIo C207_ok (.consIo C208_ok .nil))) (.cons L194[0] (by kernel_rfl) L194_2 .nil)
noncomputable def F165 (a0 : List UInt8) (a1 : List UInt8) : Option (Int × Unit) :=
 (Option.bind (F186 a0 a1) fun y0 =>
 (some (y0.1, ())))
noncomputable def C165 : Fun := ⟨[(.ro .str), (.ro .str)], [((.int .i64), .z)], fun z => F165 z.1 z.2.1⟩
noncomputable def E165 : Env := ⟨8, tyTab tys, oneTab ones, fnTab [], false, [], [(99999, [4], [])], none, [(186, C186)], []⟩
noncomputable def L165 : List (LoopS (Int × Unit)) := []
theorem C165_ok : QuietOk Tryz.prog 165 C165 := tQ E165 L165 [] Tryz.func165 ty_ok .nil .nil (hx := (.cons C186_ok .nil))
noncomputable def F141 (a0 : List UInt8) (a1 : List UInt8) : Option (Int × Unit) :=
 (Option.bind (F165 a0 a1) fun y0 =>
 (some (y0.1, ())))
noncomputable def C141 : Fun := ⟨[(.ro .str), (.ro .str)], [((.int .i64), .z)], fun z => F141 z.1 z.2.1⟩
noncomputable def E141 : Env := ⟨8, tyTab tys, oneTab ones, fnTab [(165, C165)], false, [], [(99999, [4], [])], none, [], []⟩
noncomputable def L141 : List (LoopS (Int × Unit)) := []
theorem C141_ok : QuietOk Tryz.prog 141 C141 := tQ E141 L141 [] Tryz.func141 ty_ok (.cons C165_ok .nil) .nil
noncomputable def F210 (a0 : D244) (a1 : List UInt8) : Option (Int × Unit) :=
 (Option.bind (F141 a0.1 a1) fun y0 =>
 (some (y0.1, ())))
noncomputable def C210 : Fun := ⟨[(.ro Y244), (.ro .str)], [((.int .i64), .z)], fun z => F210 z.1 z.2.1⟩
noncomputable def E210 : Env := ⟨9, tyTab tys, oneTab ones, fnTab [(141, C141)], false, [], [(99999, [4], [])], none, [], []⟩
noncomputable def L210 : List (LoopS (Int × Unit)) := []
theorem C210_ok : QuietOk Tryz.prog 210 C210 := tQ E210 L210 [] Tryz.func210 ty_ok (.cons C141_ok .nil) .nil
noncomputable def F209_R3 (e0_0 : List (D244) × List UInt8 × Int × Int × Unit → Option (Int × Bool × Unit)) (rec : List (D244) × List UInt8 × Int × Int × Int × Unit → Option (Int × Bool × Unit)) (x2 : List (D244) × List UInt8 × Int × Int × Int × Unit) : Option (Int × Bool × Unit) :=
 (cond (decide (x2.2.2.2.1 < x2.2.2.2.2.1))
 (gd (decide ((0 : Int) ≤ (IntKind.wrap IntKind.i64 (Int.fdiv (IntKind.wrap IntKind.u64 (IntKind.wrap IntKind.i64 (x2.2.2.2.1 + x2.2.2.2.2.1))) ((2 : Int) ^ (Min.min (Int.toNat (1 : Int)) (IntKind.bits IntKind.u64)))))))
 (Option.bind x2.1[(Int.toNat (IntKind.wrap IntKind.i64 (Int.fdiv (IntKind.wrap IntKind.u64 (IntKind.wrap IntKind.i64 (x2.2.2.2.1 + x2.2.2.2.2.1))) ((2 : Int) ^ (Min.min (Int.toNat (1 : Int)) (IntKind.bits IntKind.u64))))))]? fun y4 =>
 (Option.bind (F210 y4 x2.2.1) fun y5 =>
 (cond (decide (y5.1 < (0 : Int)))
 (rec (x2.1, x2.2.1, x2.2.2.1, (IntKind.wrap IntKind.i64 ((IntKind.wrap IntKind.i64 (Int.fdiv (IntKind.wrap IntKind.u64 (IntKind.wrap IntKind.i64 (x2.2.2.2.1 + x2.2.2.2.2.1))) ((2 : Int) ^ (Min.min (Int.toNat (1 : Int)) (IntKind.bits IntKind.u64))))) + (1 : Int))), x2.2.2.2.2.1, ()))
 (rec (x2.1, x2.2.1, x2.2.2.1, x2.2.2.2.1, (IntKind.wrap IntKind.i64 (Int.fdiv (IntKind.wrap IntKind.u64 (IntKind.wrap IntKind.i64 (x2.2.2.2.1 + x2.2.2.2.2.1))) ((2 : Int) ^ (Min.min (Int.toNat (1 : Int)) (IntKind.bits IntKind.u64))))), ()))))))
 (e0_0 (x2.1, x2.2.1, x2.2.2.1, x2.2.2.2.1, ())))
noncomputable def F209 (a0 : List (D244)) (a1 : List UInt8) (a2 : (Unit)) : Option (Int × Bool × Unit) :=
 (iter (F209_R3
 (fun y6 =>
 (cond (decide (y6.2.2.2.1 < y6.2.2.1))
 (gd (decide ((0 : Int) ≤ y6.2.2.2.1))
 (Option.bind y6.1[(Int.toNat y6.2.2.2.1)]? fun y7 =>
 (Option.bind (F210 y7 y6.2.1) fun y8 =>
 (some (y6.2.2.2.1, ((y8.1 == (0 : Int)), ()))))))
 (some (y6.2.2.2.1, (false, ())))))) fuel (a0, a1, (((List.length a0) : Nat) : Int), (0 : Int), (((List.length a0) : Nat) : Int), ()))
noncomputable def C209 : Fun := ⟨[(.ro (.slice Y244)), (.ro .str), (.st 210 [])], [((.int .i64), .z), (.bool, .z)], fun z => F209 z.1 z.2.1 z.2.2.1⟩
noncomputable def E209 : Env := ⟨49, tyTab tys, oneTab ones, fnTab [(210, C210)], false, [], [(3, [0, 1, 2, 8, 9, 10], []), (4, [0, 1, 2, 8, 9, 10], []), (8, [0, 1, 2, 8, 9], []), (100000, [0, 1, 2, 8, 9], []), (100001, [0, 1, 2, 8, 9, 10], []), (99999, [6, 7], [])], none, [], []⟩
noncomputable def L209 : List (LoopS (Int × Bool × Unit)) := [⟨3, ⟨[(0, (.pv (.slice Y244))), (1, (.pv .str)), (2, (.clo 210 [])), (8, (.pv (.int .i64))), (9, (.pv (.int .i64))), (10, (.pv (.int .i64)))], []⟩, fun κ => F209_R3 (fun y => κ.exit 0 (SSh.mk' ⟨[(0, (.pv (.slice Y244))), (1, (.pv .str)), (2, (.clo 210 [])), (8, (.pv (.int .i64))), (9, (.pv (.int .i64)))], []⟩ y))⟩]
theorem L209_3 : RoundEq E209 L209 L209[0] (nthLoop (codeOf Tryz.f209) 0) := fun κ N x => by kernel_rfl
theorem C209_ok : QuietOk Tryz.prog 209 C209 := tQ E209 L209 [nthLoop (codeOf Tryz.f209) 0] Tryz.func209 ty_ok (.cons C210_ok .nil) (.cons L209[0] (by kernel_rfl) L209_3 .nil)
noncomputable def F195 (a0 : List (D244)) (a1 : List UInt8) : Option (Int × Bool × Unit) :=
 (Option.bind (F209 a0 a1 ()) fun y0 =>
 (some (y0.1, (y0.2.1, ()))))
noncomputable def C195 : Fun := ⟨[(.ro (.slice Y244)), (.ro .str)], [((.int .i64), .z), (.bool, .z)], fun z => F195 z.1 z.2.1⟩
noncomputable def E195 : Env := ⟨11, tyTab tys, oneTab ones, fnTab [(209, C209), (210, C210)], false, [], [(99999, [4, 5], [])], none, [], []⟩
noncomputable def L195 : List (LoopS (Int × Bool × Unit)) := []
theorem C195_ok : QuietOk Tryz.prog 195 C195 := tQ E195 L195 [] Tryz.func195 ty_ok (.cons C209_ok (.cons C210_ok .nil)) .nil
noncomputable def F179 (a0 : D72) (a1 : List UInt8) : Option (D72 × Bool × Unit) :=
 (Option.bind (F194 a0) fun y0 =>
 (Option.bind (F195 y0.1 a1) fun y1 =>
 (cond (!y1.2.1)
 (some (((0 : Int), ((0 : Int), ([], ()))), (false, ())))
 (gd (decide ((0 : Int) ≤ y1.1))
 (Option.bind y0.1[(Int.toNat y1.1)]? fun y3 =>
 (some (y3.2.1, (true, ()))))))))
noncomputable def C179 : Fun := ⟨[(.ro Y72), (.ro .str)], [(Y72, .z), (.bool, .z)], fun z => F179 z.1 z.2.1⟩
noncomputable def E179 : Env := ⟨29, tyTab tys, oneTab ones, fnTab [(194, C194), (195, C195)], false, [], [(5, [4, 6, 8], []), (99999, [4, 5], [])], none, [], []⟩
noncomputable def L179 : List (LoopS (D72 × Bool × Unit)) := []
theorem C179_ok : QuietOk Tryz.prog 179 C179 := tQ E179 L179 [] Tryz.func179 ty_ok (.cons C194_ok (.cons C195_ok .nil)) .nil
noncomputable def F159 (a0 : D72) : Option (Int × Bool × Unit) :=
 (Option.bind (F179 a0 [(105 : UInt8), (100 : UInt8)]) fun y0 =>
 (cond (y0.1.1 == (2 : Int))
 (Option.bind (F36 y0.1.2.1 (0 : Int) (99 : Int)) fun y1 =>
 (some (y0.1.2.1, (y1.1, ()))))
 (some (y0.1.2.1, (false, ())))))
noncomputable def C159 : Fun := ⟨[(.ro Y72)], [((.int .i64), .z), (.bool, .z)], fun z => F159 z.1⟩
noncomputable def E159 : Env := ⟨21, tyTab tys, oneTab ones, fnTab [(36, C36), (179, C179)], false, [], [(99999, [2, 3], [])], none, [], []⟩
noncomputable def L159 : List (LoopS (Int × Bool × Unit)) := []
theorem C159_ok : QuietOk Tryz.prog 159 C159 := tQ E159 L159 [] Tryz.func159 ty_ok (.cons C36_ok (.cons C179_ok .nil)) .nil
noncomputable def F211 (a0 : Int) : Option (Bool × Unit) :=
 (Option.bind (F36 a0 (-(1000000000000 : Int)) (1000000000000 : Int)) fun y0 =>
 (some (y0.1, ())))
noncomputable def C211 : Fun := ⟨[(.ro (.int .i64))], [(.bool, .z)], fun z => F211 z.1⟩
noncomputable def E211 : Env := ⟨5, tyTab tys, oneTab ones, fnTab [(36, C36)], false, [], [(99999, [2], [])], none, [], []⟩
noncomputable def L211 : List (LoopS (Bool × Unit)) := []
theorem C211_ok : QuietOk Tryz.prog 211 C211 := tQ E211 L211 [] Tryz.func211 ty_ok (.cons C36_ok .nil) .nil
noncomputable def F222_R2 (e0_0 : D187 × List (D72) × Unit → Option (List (D72) × Bool × Unit)) (rec : D187 × List (D72) × Unit → Option (List (D72) × Bool × Unit)) (x2 : D187 × List (D72) × Unit) : Option (List (D72) × Bool × Unit) :=
 (cond (!(x2.1.1 == []))
 (cond (!x2.1.2.1)
 (Option.bind (F208 x2.1) fun y4 =>
 (gd (decide (((List.length x2.2.1) + (List.length [y4.1])) ≤ lim))
 (rec (y4.2.1, (x2.2.1 ++ [y4.1]), ()))))
 (e0_0 (x2.1, x2.2.1, ())))
 (e0_0 (x2.1, x2.2.1, ())))
noncomputable def F222 (a0 : D72) : Option (List (D72) × Bool × Unit) :=
 (iter (F222_R2
 (fun y5 =>
 (some (y5.2.1, ((!y5.1.2.1), ()))))) fuel ((a0.2.2.1, (false, ())), [], ()))
noncomputable def C222 : Fun := ⟨[(.ro Y72)], [((.slice Y72), .z), (.bool, .z)], fun z => F222 z.1⟩
noncomputable def E222 : Env := ⟨34, tyTab tys, oneTab ones, fnTab [(208, C208)], false, [], [(2, [4, 5], []), (3, [4, 5], []), (4, [4, 5], []), (100000, [4, 5], []), (100001, [4, 5], []), (99999, [2, 3], [])], none, [], []⟩
noncomputable def L222 : List (LoopS (List (D72) × Bool × Unit)) := [⟨2, ⟨[(4, (.ptr 72 [])), (5, (.ref (.slice Y72) 80 []))], [(72, (.data true Y187 .z)), (80, (.data false (.slice Y72) (.own .z)))]⟩, fun κ => F222_R2 (fun y => κ.exit 0 (SSh.mk' ⟨[(4, (.ptr 72 [])), (5, (.ref (.slice Y72) 80 []))], [(72, (.data true Y187 .z)), (80, (.data false (.slice Y72) (.own .z)))]⟩ y))⟩]
theorem L222_2 : RoundEq E222 L222 L222[0] (nthLoop (codeOf Tryz.f222) 0) := fun κ N x => by kernel_rfl
theorem C222_ok : QuietOk Tryz.prog 222 C222 := tQ E222 L222 [nthLoop (codeOf Tryz.f222) 0] Tryz.func222 ty_ok (.consIo C208_ok .nil) (.cons L222[0] (by kernel_rfl) L222_2 .nil)
noncomputable def F212_R6 (e0_0 : Bool × List (D72) × Unit → Option (List (D72) × Bool × Unit)) (rec : List (D244) × Bool × List (D244) × Int × Int × List (D72) × Unit → Option (List (D72) × Bool × Unit)) (x5 : List (D244) × Bool × List (D244) × Int × Int × List (D72) × Unit) : Option (List (D72) × Bool × Unit) :=
 (cond (decide (x5.2.2.2.2.1 < x5.2.2.2.1))
 (gd (decide ((0 : Int) ≤ x5.2.2.2.2.1))
 (Option.bind x5.2.2.1[(Int.toNat x5.2.2.2.2.1)]? fun y7 =>
 (cond x5.2.1
 (Option.bind (F94 y7.1) fun y8 =>
 (cond y8.1
 (cond (x5.2.2.2.2.1 == (0 : Int))
 (gd (decide (((List.length x5.2.2.2.2.2.1) + (List.length [y7.2.1])) ≤ lim))
 (rec (x5.1, true, x5.2.2.1, x5.2.2.2.1, (IntKind.wrap IntKind.i64 (x5.2.2.2.2.1 + (1 : Int))), (x5.2.2.2.2.2.1 ++ [y7.2.1]), ())))
 (gd (decide ((0 : Int) ≤ (IntKind.wrap IntKind.i64 (x5.2.2.2.2.1 - (1 : Int)))))
 (Option.bind x5.1[(Int.toNat (IntKind.wrap IntKind.i64 (x5.2.2.2.2.1 - (1 : Int))))]? fun y9 =>
 (gd (decide (((List.length x5.2.2.2.2.2.1) + (List.length [y7.2.1])) ≤ lim))
 (rec (x5.1, (Op.bytesLess y9.1 y7.1), x5.2.2.1, x5.2.2.2.1, (IntKind.wrap IntKind.i64 (x5.2.2.2.2.1 + (1 : Int))), (x5.2.2.2.2.2.1 ++ [y7.2.1]), ()))))))
 (gd (decide (((List.length x5.2.2.2.2.2.1) + (List.length [y7.2.1])) ≤ lim))
 (rec (x5.1, false, x5.2.2.1, x5.2.2.2.1, (IntKind.wrap IntKind.i64 (x5.2.2.2.2.1 + (1 : Int))), (x5.2.2.2.2.2.1 ++ [y7.2.1]), ())))))
 (gd (decide (((List.length x5.2.2.2.2.2.1) + (List.length [y7.2.1])) ≤ lim))
 (rec (x5.1, false, x5.2.2.1, x5.2.2.2.1, (IntKind.wrap IntKind.i64 (x5.2.2.2.2.1 + (1 : Int))), (x5.2.2.2.2.2.1 ++ [y7.2.1]), ()))))))
 (e0_0 (x5.2.1, x5.2.2.2.2.2.1, ())))
noncomputable def F212 (a0 : D72) : Option (List (D72) × Bool × Unit) :=
 (cond (a0.1 == (4 : Int))
 (Option.bind (F222 a0) fun y1 =>
 (some (y1.1, (y1.2.1, ()))))
 (Option.bind (F194 a0) fun y2 =>
 (iter (F212_R6
 (fun y10 =>
 (some (y10.2.1, (y10.1, ()))))) fuel (y2.1, y2.2.1, y2.1, (((List.length y2.1) : Nat) : Int), (0 : Int), [], ()))))
noncomputable def C212 : Fun := ⟨[(.ro Y72)], [((.slice Y72), .z), (.bool, .z)], fun z => F212 z.1⟩
noncomputable def E212 : Env := ⟨58, tyTab tys, oneTab ones, fnTab [(94, C94), (194, C194), (222, C222)], false, [], [(3, [1], []), (6, [4, 5, 6, 22, 23, 24], []), (7, [4, 5, 6, 22, 23, 24], []), (11, [5, 6], []), (100000, [5, 6], []), (100001, [4, 5, 6, 22, 23, 24], []), (99999, [2, 3], [])], none, [], []⟩
noncomputable def L212 : List (LoopS (List (D72) × Bool × Unit)) := [⟨6, ⟨[(4, (.pv (.slice Y244))), (5, (.pv .bool)), (6, (.ref (.slice Y72) 168 [])), (22, (.pv (.slice Y244))), (23, (.pv (.int .i64))), (24, (.pv (.int .i64)))], [(168, (.data false (.slice Y72) (.own .z)))]⟩, fun κ => F212_R6 (fun y => κ.exit 0 (SSh.mk' ⟨[(5, (.pv .bool)), (6, (.ref (.slice Y72) 168 []))], [(168, (.data false (.slice Y72) (.own .z)))]⟩ y))⟩]
theorem L212_6 : RoundEq E212 L212 L212[0] (nthLoop (codeOf Tryz.f212) 0) := fun κ N x => by kernel_rfl
theorem C212_ok : QuietOk Tryz.prog 212 C212 := tQ E212 L212 [nthLoop (codeOf Tryz.f212) 0] Tryz.func212 ty_ok (.cons C94_ok (.cons C194_ok (.cons C222_ok .nil))) (.cons L212[0] (by kernel_rfl) L212_6 .nil)
noncomputable def F223_R2 (e0_0 : Unit → Option (Int × Unit)) (er_1 : Int × Unit → Option (Int × Unit)) (rec : List (D72) × (D72 → Option (Bool)) × Int × Int × Unit → Option (Int × Unit)) (x2 : List (D72) × (D72 → Option (Bool)) × Int × Int × Unit) : Option (Int × Unit) :=
 (cond (decide (x2.2.2.2.1 < x2.2.2.1))
 (gd (decide ((0 : Int) ≤ x2.2.2.2.1))
 (Option.bind x2.1[(Int.toNat x2.2.2.2.1)]? fun y5 =>
 (Option.bind (x2.2.1 y5) fun y6 =>
 (cond y6
 (er_1 (x2.2.2.2.1, ()))
 (rec (x2.1, x2.2.1, x2.2.2.1, (IntKind.wrap IntKind.i64 (x2.2.2.2.1 + (1 : Int))), ()))))))
 (e0_0 (())))
noncomputable def F223 (a0 : List (D72)) (a1 : (D72 → Option (Bool))) : Option (Int × Unit) :=
 (iter (F223_R2
 (fun y7 =>
 (some ((-(1 : Int)), ())))
 (fun y8 =>
 (some (y8.1, ())))) fuel (a0, a1, (((List.length a0) : Nat) : Int), (0 : Int), ()))
noncomputable def C223 : Fun := ⟨[(.ro (.slice Y72)), (.fn Y72 .bool)], [((.int .i64), .z)], fun z => F223 z.1 z.2.1⟩
noncomputable def E223 : Env := ⟨19, tyTab tys, oneTab ones, fnTab [], false, [], [(2, [0, 1, 7, 8], []), (3, [0, 1, 7, 8], []), (6, [0, 1, 7, 8], []), (7, [], []), (100000, [], []), (100001, [0, 1, 7, 8], []), (99999, [4], [])], none, [], []⟩
noncomputable def L223 : List (LoopS (Int × Unit)) := [⟨2, ⟨[(0, (.pv (.slice Y72))), (1, (.fnA Y72 .bool)), (7, (.pv (.int .i64))), (8, (.pv (.int .i64)))], []⟩, fun κ => F223_R2 (fun y => κ.exit 0 (SSh.mk' ⟨[], []⟩ y)) (fun y => κ.ret (SSh.mk' ⟨[(4, (.pv (.int .i64)))], []⟩ y))⟩]
theorem L223_2 : RoundEq E223 L223 L223[0] (nthLoop (codeOf Tryz.f223) 0) := fun κ N x => by kernel_rfl
theorem C223_ok : QuietOk Tryz.prog 223 C223 := tQ E223 L223 [nthLoop (codeOf Tryz.f223) 0] Tryz.func223 ty_ok .nil (.cons L223[0] (by kernel_rfl) L223_2 .nil)
noncomputable def F213 (a0 : List (D72)) (a1 : (D72 → Option (Bool))) : Option (Bool × Unit) :=
 (Option.bind (F223 a0 a1) fun y0 =>
 (some ((decide (y0.1 ≥ (0 : Int))), ())))
noncomputable def C213 : Fun := ⟨[(.ro (.slice Y72)), (.fn Y72 .bool)], [(.bool, .z)], fun z => F213 z.1 z.2.1⟩
noncomputable def E213 : Env := ⟨9, tyTab tys, oneTab ones, fnTab [(223, C223)], false, [], [(99999, [4], [])], none, [], []⟩
noncomputable def L213 : List (LoopS (Bool × Unit)) := []
theorem C213_ok : QuietOk Tryz.prog 213 C213 := tQ E213 L213 [] Tryz.func213 ty_ok (.cons C223_ok .nil) .nil
abbrev G196 : Type := (D72) → (Int) → Option (Bool × Unit)
noncomputable def H196 (g : G196) : Fun := ⟨[(.ro Y72), (.ro (.int .i64))], [(.bool, .z)], fun z => g z.1 z.2.1⟩
noncomputable def B214 (g : G196) (a0 : D72) (a1 : Int) : Option (Bool × Unit) :=
 (Option.bind (g a0 (IntKind.wrap IntKind.i64 (a1 - (1 : Int)))) fun y0 =>
 (some ((!y0.1), ())))
noncomputable def K214 (g : G196) : Fun := ⟨[(.ro Y72), (.rp (.int .i64))], [(.bool, .z)], fun z => B214 g z.1 z.2.1⟩
noncomputable def E214 (g : G196) : Env := ⟨9, tyTab tys, oneTab ones, fnTab [(196, (H196 g))], false, [], [(99999, [3], [])], none, [], []⟩
noncomputable def L214 (g : G196) : List (LoopS (Bool × Unit)) := []
theorem K214_ok (g : G196) (hg : QuietOk Tryz.prog 196 (H196 g)) : QuietOk Tryz.prog 214 (K214 g) := tQ (E214 g) (L214 g) [] Tryz.func214 ty_ok (.cons hg .nil) .nil
noncomputable def B196 (g : G196) (a0 : D72) (a1 : Int) : Option (Bool × Unit) :=
 (let j8 : Unit → Option (Bool × Unit) := fun (y9 : Unit) =>
 (some (false, ()))
 (cond (a0.1 == (0 : Int))
 (some (((decide (a0.1 = (0 : Int))) && ((decide (a0.2.1 = (0 : Int))) && ((a0.2.2.1 == []) && true))), ()))
 (cond (a0.1 == (1 : Int))
 (Option.bind (F36 a0.2.1 (0 : Int) (1 : Int)) fun y1 =>
 (cond y1.1
 (some ((a0.2.2.1 == []), ()))
 (some (false, ()))))
 (cond (a0.1 == (2 : Int))
 (Option.bind (F211 a0.2.1) fun y2 =>
 (cond y2.1
 (some ((a0.2.2.1 == []), ()))
 (some (false, ()))))
 (cond (a0.1 == (3 : Int))
 (cond (a0.2.1 == (0 : Int))
 (some ((decide ((((List.length a0.2.2.1) : Nat) : Int) ≤ (300 : Int))), ()))
 (some (false, ())))
 (cond (a0.1 == (4 : Int))
 (cond (a0.1 == (4 : Int))
 (Option.bind (F212 a0) fun y4 =>
 (cond (a0.2.1 == (0 : Int))
 (cond (decide ((((List.length a0.2.2.1) : Nat) : Int) ≤ (300 : Int)))
 (cond (decide (a1 > (0 : Int)))
 (cond y4.2.1
 (Option.bind (F213 y4.1 (fun (v6 : D72) => (Option.map (fun (v7 : (Bool × Unit)) => v7.1) (B214 g v6 a1)))) fun y5 =>
 (some ((!y5.1), ())))
 (some (false, ())))
 (some (false, ())))
 (some (false, ())))
 (some (false, ()))))
 (j8 (())))
 (cond (a0.1 == (5 : Int))
 (Option.bind (F212 a0) fun y6 =>
 (cond (a0.2.1 == (0 : Int))
 (cond (decide ((((List.length a0.2.2.1) : Nat) : Int) ≤ (300 : Int)))
 (cond (decide (a1 > (0 : Int)))
 (cond y6.2.1
 (Option.bind (F213 y6.1 (fun (v6 : D72) => (Option.map (fun (v7 : (Bool × Unit)) => v7.1) (B214 g v6 a1)))) fun y7 =>
 (some ((!y7.1), ())))
 (some (false, ())))
 (some (false, ())))
 (some (false, ())))
 (some (false, ()))))
 (j8 (())))))))))
noncomputable def K196 (g : G196) : Fun := ⟨[(.ro Y72), (.ro (.int .i64))], [(.bool, .z)], fun z => B196 g z.1 z.2.1⟩
noncomputable def E196 (g : G196) : Env := ⟨75, tyTab tys, oneTab ones, fnTab [(36, C36), (211, C211), (212, C212), (213, C213), (214, (K214 g))], false, [], [(14, [], []), (100000, [], []), (99999, [4], [])], none, [], []⟩
noncomputable def L196 (g : G196) : List (LoopS (Bool × Unit)) := []
theorem K196_ok (g : G196) (hg : QuietOk Tryz.prog 196 (H196 g)) : QuietOk Tryz.prog 196 (K196 g) := tQ (E196 g) (L196 g) [] Tryz.func196 ty_ok (.cons C36_ok (.cons C211_ok (.cons C212_ok (.cons C213_ok (.cons (K214_ok g hg) .nil))))) .nil
noncomputable def S196 : Nat → G196
  | 0 => fun _ _ => none
  | k + 1 => B196 (S196 k)
noncomputable def F196 : G196 := S196 fuel
noncomputable def C196 : Fun := H196 F196
theorem C196_all : ∀ k, QuietOk Tryz.prog 196 (H196 (S196 k))
  | 0 => QuietOk.none Tryz.func196 (by rfl) (by decide) fun _ => rfl
  | k + 1 => K196_ok (S196 k) (C196_all k)
theorem C196_ok : QuietOk Tryz.prog 196 C196 := C196_all fuel
noncomputable def F180 (a0 : D72) : Option (Bool × Unit) :=
 (Option.bind (F196 a0 (5 : Int)) fun y0 =>
 (some (y0.1, ())))
noncomputable def C180 : Fun := ⟨[(.ro Y72)], [(.bool, .z)], fun z => F180 z.1⟩
noncomputable def E180 : Env := ⟨5, tyTab tys, oneTab ones, fnTab [(196, C196)], false, [], [(99999, [2], [])], none, [], []⟩
noncomputable def L180 : List (LoopS (Bool × Unit)) := []
theorem C180_ok : QuietOk Tryz.prog 180 C180 := tQ E180 L180 [] Tryz.func180 ty_ok (.cons C196_ok .nil) .nil
noncomputable def F160 (a0 : D72) : Option (Bool × Unit) :=
 (cond (a0.1 == (5 : Int))
 (Option.bind (F180 a0) fun y0 =>
 (some (y0.1, ())))
 (some (false, ())))
noncomputable def C160 : Fun := ⟨[(.ro Y72)], [(.bool, .z)], fun z => F160 z.1⟩
noncomputable def E160 : Env := ⟨10, tyTab tys, oneTab ones, fnTab [(180, C180)], false, [], [(99999, [2], [])], none, [], []⟩
noncomputable def L160 : List (LoopS (Bool × Unit)) := []
theorem C160_ok : QuietOk Tryz.prog 160 C160 := tQ E160 L160 [] Tryz.func160 ty_ok (.cons C180_ok .nil) .nil
noncomputable def F132 (a0 : Bool) (a1 : D72) (a2 : Int) : Option (Bool × Unit) :=
 (cond a0
 (some (((decide (a1.1 = (0 : Int))) && ((decide (a1.2.1 = (0 : Int))) && ((a1.2.2.1 == []) && true))), ()))
 (Option.bind (F159 a1) fun y1 =>
 (Option.bind (F160 a1) fun y2 =>
 (cond y2.1
 (cond y1.2.1
 (some ((y1.1 == a2), ()))
 (some (false, ())))
 (some (false, ()))))))
noncomputable def C132 : Fun := ⟨[(.ro .bool), (.ro Y72), (.ro (.int .i64))], [(.bool, .z)], fun z => F132 z.1 z.2.1 z.2.2.1⟩
noncomputable def E132 : Env := ⟨28, tyTab tys, oneTab ones, fnTab [(159, C159), (160, C160)], false, [], [(3, [2, 4], []), (99999, [6], [])], none, [], []⟩
noncomputable def L132 : List (LoopS (Bool × Unit)) := []
theorem C132_ok : QuietOk Tryz.prog 132 C132 := tQ E132 L132 [] Tryz.func132 ty_ok (.cons C159_ok (.cons C160_ok .nil)) .nil
noncomputable def F93_R2 (e0_0 : D70 × Unit → Option (Bool × Unit)) (er_1 : Bool × Unit → Option (Bool × Unit)) (rec : List (D74) × Int × Int × D70 × Unit → Option (Bool × Unit)) (x2 : List (D74) × Int × Int × D70 × Unit) : Option (Bool × Unit) :=
 (cond (decide (x2.2.2.1 < x2.2.1))
 (let j10 : List (D74) × Int × Int × D70 × Unit → Option (Bool × Unit) := fun (y11 : List (D74) × Int × Int × D70 × Unit) =>
 (rec (y11.1, y11.2.1, (IntKind.wrap IntKind.i64 (y11.2.2.1 + (1 : Int))), y11.2.2.2.1, ()))
 (gd (decide ((0 : Int) ≤ x2.2.2.1))
 (Option.bind x2.1[(Int.toNat x2.2.2.1)]? fun y5 =>
 (Option.bind (F98 y5.1) fun y6 =>
 (cond (!y6.1)
 (er_1 (false, ()))
 (cond (decide (x2.2.2.1 > (0 : Int)))
 (gd (decide ((0 : Int) ≤ (IntKind.wrap IntKind.i64 (x2.2.2.1 - (1 : Int)))))
 (Option.bind x2.2.2.2.1.2.1[(Int.toNat (IntKind.wrap IntKind.i64 (x2.2.2.1 - (1 : Int))))]? fun y7 =>
 (cond (decide (y7.1 ≥ y5.1))
 (er_1 (false, ()))
 (Option.bind (F132 y5.2.1 y5.2.2.1 x2.2.2.2.1.1) fun y8 =>
 (cond (!y8.1)
 (er_1 (false, ()))
 (j10 (x2.1, x2.2.1, x2.2.2.1, x2.2.2.2.1, ())))))))
 (Option.bind (F132 y5.2.1 y5.2.2.1 x2.2.2.2.1.1) fun y9 =>
 (cond (!y9.1)
 (er_1 (false, ()))
 (j10 (x2.1, x2.2.1, x2.2.2.1, x2.2.2.2.1, ()))))))))))
 (e0_0 (x2.2.2.2.1, ())))
noncomputable def F93 (a0 : D70) : Option (Bool × Unit) :=
 (iter (F93_R2
 (fun y12 =>
 (Option.bind (F36 y12.1.1 (0 : Int) (19 : Int)) fun y14 =>
 (cond y14.1
 (Option.bind (F36 (((List.length y12.1.2.1) : Nat) : Int) (1 : Int) (12 : Int)) fun y15 =>
 (some (y15.1, ())))
 (some (false, ())))))
 (fun y13 =>
 (some (y13.1, ())))) fuel (a0.2.1, (((List.length a0.2.1) : Nat) : Int), (0 : Int), a0, ()))
noncomputable def C93 : Fun := ⟨[(.ro Y70)], [(.bool, .z)], fun z => F93 z.1⟩
noncomputable def E93 : Env := ⟨53, tyTab tys, oneTab ones, fnTab [(36, C36), (98, C98), (132, C132)], false, [], [(2, [1, 6, 7, 8], []), (3, [1, 6, 7, 8], []), (6, [1, 6, 7, 8], []), (7, [1], []), (100000, [1], []), (100001, [1, 6, 7, 8], []), (99999, [2], [])], none, [], []⟩
noncomputable def L93 : List (LoopS (Bool × Unit)) := [⟨2, ⟨[(1, (.ptr 8 [])), (6, (.pv (.slice Y74))), (7, (.pv (.int .i64))), (8, (.pv (.int .i64)))], [(8, (.data true Y70 .z))]⟩, fun κ => F93_R2 (fun y => κ.exit 0 (SSh.mk' ⟨[(1, (.ptr 8 []))], [(8, (.data true Y70 .z))]⟩ y)) (fun y => κ.ret (SSh.mk' ⟨[(2, (.pv .bool))], []⟩ y))⟩]
theorem L93_2 : RoundEq E93 L93 L93[0] (nthLoop (codeOf Tryz.f93) 0) := fun κ N x => by kernel_rfl
theorem C93_ok : QuietOk Tryz.prog 93 C93 := tQ E93 L93 [nthLoop (codeOf Tryz.f93) 0] Tryz.func93 ty_ok (.cons C36_ok (.cons C98_ok (.cons C132_ok .nil))) (.cons L93[0] (by kernel_rfl) L93_2 .nil)
noncomputable def F63_R2 (e0_0 : D51 × Unit → Option (Bool × Unit)) (er_1 : Bool × Unit → Option (Bool × Unit)) (rec : List (D137) × Int × Int × D51 × Unit → Option (Bool × Unit)) (x2 : List (D137) × Int × Int × D51 × Unit) : Option (Bool × Unit) :=
 (cond (decide (x2.2.2.1 < x2.2.1))
 (gd (decide ((0 : Int) ≤ x2.2.2.1))
 (Option.bind x2.1[(Int.toNat x2.2.2.1)]? fun y5 =>
 (Option.bind (F91 y5) fun y6 =>
 (cond (!y6.1)
 (er_1 (false, ()))
 (Option.bind (F92 x2.2.2.2.1 y5.1) fun y7 =>
 (cond (decide (y7.1 < x2.2.2.1))
 (er_1 (false, ()))
 (rec (x2.1, x2.2.1, (IntKind.wrap IntKind.i64 (x2.2.2.1 + (1 : Int))), x2.2.2.2.1, ()))))))))
 (e0_0 (x2.2.2.2.1, ())))
noncomputable def F63_R8 (e2_0 : D51 × Unit → Option (Bool × Unit)) (er_1 : Bool × Unit → Option (Bool × Unit)) (rec : List (D70) × Int × Int × D51 × Unit → Option (Bool × Unit)) (x12 : List (D70) × Int × Int × D51 × Unit) : Option (Bool × Unit) :=
 (cond (decide (x12.2.2.1 < x12.2.1))
 (let j18 : List (D70) × Int × Int × D51 × Unit → Option (Bool × Unit) := fun (y19 : List (D70) × Int × Int × D51 × Unit) =>
 (rec (y19.1, y19.2.1, (IntKind.wrap IntKind.i64 (y19.2.2.1 + (1 : Int))), y19.2.2.2.1, ()))
 (gd (decide ((0 : Int) ≤ x12.2.2.1))
 (Option.bind x12.1[(Int.toNat x12.2.2.1)]? fun y15 =>
 (Option.bind (F93 y15) fun y16 =>
 (cond (!y16.1)
 (er_1 (false, ()))
 (cond (decide (x12.2.2.1 > (0 : Int)))
 (gd (decide ((0 : Int) ≤ (IntKind.wrap IntKind.i64 (x12.2.2.1 - (1 : Int)))))
 (Option.bind x12.2.2.2.1.2.1[(Int.toNat (IntKind.wrap IntKind.i64 (x12.2.2.1 - (1 : Int))))]? fun y17 =>
 (cond (decide (y17.1 ≥ y15.1))
 (er_1 (false, ()))
 (j18 (x12.1, x12.2.1, x12.2.2.1, x12.2.2.2.1, ())))))
 (j18 (x12.1, x12.2.1, x12.2.2.1, x12.2.2.2.1, ()))))))))
 (e2_0 (x12.2.2.2.1, ())))
noncomputable def F63 (a0 : D51) : Option (Bool × Unit) :=
 (iter (F63_R2
 (fun y8 =>
 (iter (F63_R8
 (fun y20 =>
 (Option.bind (F94 y20.1.1) fun y22 =>
 (cond y22.1
 (some ((decide ((((List.length y20.1.2.2.1) : Nat) : Int) ≤ (3 : Int))), ()))
 (some (false, ())))))
 (fun y21 =>
 (some (y21.1, ())))) fuel (y8.1.2.1, (((List.length y8.1.2.1) : Nat) : Int), (0 : Int), y8.1, ())))
 (fun y9 =>
 (some (y9.1, ())))) fuel (a0.2.2.1, (((List.length a0.2.2.1) : Nat) : Int), (0 : Int), a0, ()))
noncomputable def C63 : Fun := ⟨[(.ro Y51)], [(.bool, .z)], fun z => F63 z.1⟩
noncomputable def E63 : Env := ⟨64, tyTab tys, oneTab ones, fnTab [(91, C91), (92, C92), (93, C93), (94, C94)], false, [], [(2, [1, 8, 9, 10], []), (3, [1, 8, 9, 10], []), (6, [1, 8, 9, 10], []), (7, [1], []), (8, [1, 28, 29, 30], []), (9, [1, 28, 29, 30], []), (12, [1, 28, 29, 30], []), (13, [1], []), (100000, [1], []), (100001, [1, 8, 9, 10], []), (100002, [1], []), (100003, [1, 28, 29, 30], []), (99999, [2], [])], none, [], []⟩
noncomputable def L63 : List (LoopS (Bool × Unit)) := [⟨2, ⟨[(1, (.ptr 8 [])), (8, (.pv (.slice Y137))), (9, (.pv (.int .i64))), (10, (.pv (.int .i64)))], [(8, (.data true Y51 .z))]⟩, fun κ => F63_R2 (fun y => κ.exit 0 (SSh.mk' ⟨[(1, (.ptr 8 []))], [(8, (.data true Y51 .z))]⟩ y)) (fun y => κ.ret (SSh.mk' ⟨[(2, (.pv .bool))], []⟩ y))⟩,
  ⟨8, ⟨[(1, (.ptr 8 [])), (28, (.pv (.slice Y70))), (29, (.pv (.int .i64))), (30, (.pv (.int .i64)))], [(8, (.data true Y51 .z))]⟩, fun κ => F63_R8 (fun y => κ.exit 2 (SSh.mk' ⟨[(1, (.ptr 8 []))], [(8, (.data true Y51 .z))]⟩ y)) (fun y => κ.ret (SSh.mk' ⟨[(2, (.pv .bool))], []⟩ y))⟩]
theorem L63_8 : RoundEq E63 L63 L63[1] (nthLoop (codeOf Tryz.f63) 1) := fun κ N x => by kernel_rfl
theorem L63_2 : RoundEq E63 L63 L63[0] (nthLoop (codeOf Tryz.f63) 0) := fun κ N x => by kernel_rfl
theorem C63_ok : QuietOk Tryz.prog 63 C63 := tQ E63 L63 [nthLoop (codeOf Tryz.f63) 0, nthLoop (codeOf Tryz.f63) 1] Tryz.func63 ty_ok (.cons C91_ok (.cons C92_ok (.cons C93_ok (.cons C94_ok .nil)))) (.cons L63[0] (by kernel_rfl) L63_2 (.cons L63[1] (by kernel_rfl) L63_8 .nil))
noncomputable def F34_R2 (e0_0 : List (D51) × Unit → Option (Bool × Unit)) (er_1 : Bool × Unit → Option (Bool × Unit)) (rec : List (D51) × List (D51) × Int × Int × Unit → Option (Bool × Unit)) (x2 : List (D51) × List (D51) × Int × Int × Unit) : Option (Bool × Unit) :=
 (cond (decide (x2.2.2.2.1 < x2.2.2.1))
 (let j8 : List (D51) × List (D51) × Int × Int × Unit → Option (Bool × Unit) := fun (y9 : List (D51) × List (D51) × Int × Int × Unit) =>
 (rec (y9.1, y9.2.1, y9.2.2.1, (IntKind.wrap IntKind.i64 (y9.2.2.2.1 + (1 : Int))), ()))
 (gd (decide ((0 : Int) ≤ x2.2.2.2.1))
 (Option.bind x2.2.1[(Int.toNat x2.2.2.2.1)]? fun y5 =>
 (Option.bind (F63 y5) fun y6 =>
 (cond (!y6.1)
 (er_1 (false, ()))
 (cond (decide (x2.2.2.2.1 > (0 : Int)))
 (gd (decide ((0 : Int) ≤ (IntKind.wrap IntKind.i64 (x2.2.2.2.1 - (1 : Int)))))
 (Option.bind x2.1[(Int.toNat (IntKind.wrap IntKind.i64 (x2.2.2.2.1 - (1 : Int))))]? fun y7 =>
 (cond (!(Op.bytesLess y7.1 y5.1))
 (er_1 (false, ()))
 (j8 (x2.1, x2.2.1, x2.2.2.1, x2.2.2.2.1, ())))))
 (j8 (x2.1, x2.2.1, x2.2.2.1, x2.2.2.2.1, ()))))))))
 (e0_0 (x2.1, ())))
noncomputable def F34 (a0 : List (D51)) : Option (Bool × Unit) :=
 (iter (F34_R2
 (fun y10 =>
 (some ((decide ((((List.length y10.1) : Nat) : Int) ≤ (3 : Int))), ())))
 (fun y11 =>
 (some (y11.1, ())))) fuel (a0, a0, (((List.length a0) : Nat) : Int), (0 : Int), ()))
noncomputable def C34 : Fun := ⟨[(.ro (.slice Y51))], [(.bool, .z)], fun z => F34 z.1⟩
noncomputable def E34 : Env := ⟨34, tyTab tys, oneTab ones, fnTab [(63, C63)], false, [], [(2, [0, 5, 6, 7], []), (3, [0, 5, 6, 7], []), (6, [0, 5, 6, 7], []), (7, [0], []), (100000, [0], []), (100001, [0, 5, 6, 7], []), (99999, [2], [])], none, [], []⟩
noncomputable def L34 : List (LoopS (Bool × Unit)) := [⟨2, ⟨[(0, (.pv (.slice Y51))), (5, (.pv (.slice Y51))), (6, (.pv (.int .i64))), (7, (.pv (.int .i64)))], []⟩, fun κ => F34_R2 (fun y => κ.exit 0 (SSh.mk' ⟨[(0, (.pv (.slice Y51)))], []⟩ y)) (fun y => κ.ret (SSh.mk' ⟨[(2, (.pv .bool))], []⟩ y))⟩]
theorem L34_2 : RoundEq E34 L34 L34[0] (nthLoop (codeOf Tryz.f34) 0) := fun κ N x => by kernel_rfl
theorem C34_ok : QuietOk Tryz.prog 34 C34 := tQ E34 L34 [nthLoop (codeOf Tryz.f34) 0] Tryz.func34 ty_ok (.cons C63_ok .nil) (.cons L34[0] (by kernel_rfl) L34_2 .nil)
noncomputable def F134_R2 (e0_0 : Unit → Option (Int × Unit)) (er_1 : Int × Unit → Option (Int × Unit)) (rec : List (D150) × (D150 → Option (Bool)) × Int × Int × Unit → Option (Int × Unit)) (x2 : List (D150) × (D150 → Option (Bool)) × Int × Int × Unit) : Option (Int × Unit) :=
 (cond (decide (x2.2.2.2.1 < x2.2.2.1))
 (gd (decide ((0 : Int) ≤ x2.2.2.2.1))
 (Option.bind x2.1[(Int.toNat x2.2.2.2.1)]? fun y5 =>
 (Option.bind (x2.2.1 y5) fun y6 =>
 (cond y6
 (er_1 (x2.2.2.2.1, ()))
 (rec (x2.1, x2.2.1, x2.2.2.1, (IntKind.wrap IntKind.i64 (x2.2.2.2.1 + (1 : Int))), ()))))))
 (e0_0 (())))
noncomputable def F134 (a0 : List (D150)) (a1 : (D150 → Option (Bool))) : Option (Int × Unit) :=
 (iter (F134_R2
 (fun y7 =>
 (some ((-(1 : Int)), ())))
 (fun y8 =>
 (some (y8.1, ())))) fuel (a0, a1, (((List.length a0) : Nat) : Int), (0 : Int), ()))
noncomputable def C134 : Fun := ⟨[(.ro (.slice Y150)), (.fn Y150 .bool)], [((.int .i64), .z)], fun z => F134 z.1 z.2.1⟩
noncomputable def E134 : Env := ⟨19, tyTab tys, oneTab ones, fnTab [], false, [], [(2, [0, 1, 7, 8], []), (3, [0, 1, 7, 8], []), (6, [0, 1, 7, 8], []), (7, [], []), (100000, [], []), (100001, [0, 1, 7, 8], []), (99999, [4], [])], none, [], []⟩
noncomputable def L134 : List (LoopS (Int × Unit)) := [⟨2, ⟨[(0, (.pv (.slice Y150))), (1, (.fnA Y150 .bool)), (7, (.pv (.int .i64))), (8, (.pv (.int .i64)))], []⟩, fun κ => F134_R2 (fun y => κ.exit 0 (SSh.mk' ⟨[], []⟩ y)) (fun y => κ.ret (SSh.mk' ⟨[(4, (.pv (.int .i64)))], []⟩ y))⟩]
theorem L134_2 : RoundEq E134 L134 L134[0] (nthLoop (codeOf Tryz.f134) 0) := fun κ N x => by kernel_rfl
theorem C134_ok : QuietOk Tryz.prog 134 C134 := tQ E134 L134 [nthLoop (codeOf Tryz.f134) 0] Tryz.func134 ty_ok .nil (.cons L134[0] (by kernel_rfl) L134_2 .nil)
noncomputable def F95 (a0 : List (D150)) (a1 : (D150 → Option (Bool))) : Option (Bool × Unit) :=
 (Option.bind (F134 a0 a1) fun y0 =>
 (some ((decide (y0.1 ≥ (0 : Int))), ())))
noncomputable def C95 : Fun := ⟨[(.ro (.slice Y150)), (.fn Y150 .bool)], [(.bool, .z)], fun z => F95 z.1 z.2.1⟩
noncomputable def E95 : Env := ⟨9, tyTab tys, oneTab ones, fnTab [(134, C134)], false, [], [(99999, [4], [])], none, [], []⟩
noncomputable def L95 : List (LoopS (Bool × Unit)) := []
theorem C95_ok : QuietOk Tryz.prog 95 C95 := tQ E95 L95 [] Tryz.func95 ty_ok (.cons C134_ok .nil) .nil
noncomputable def F97 (a0 : D150) (a1 : D150) : Option (Bool × Unit) :=
 (cond (a0.1.1 == a1.1.1)
 (some ((a0.1.2.1 == a1.1.2.1), ()))
 (some (false, ())))
noncomputable def C97 : Fun := ⟨[(.ro Y150), (.ro Y150)], [(.bool, .z)], fun z => F97 z.1 z.2.1⟩
noncomputable def E97 : Env := ⟨21, tyTab tys, oneTab ones, fnTab [], false, [], [(99999, [4], [])], none, [], []⟩
noncomputable def L97 : List (LoopS (Bool × Unit)) := []
theorem C97_ok : QuietOk Tryz.prog 97 C97 := tQ E97 L97 [] Tryz.func97 ty_ok .nil .nil
noncomputable def F96 (a0 : D150) (a1 : D150) : Option (Bool × Unit) :=
 (Option.bind (F97 a1 a0) fun y0 =>
 (some (y0.1, ())))
noncomputable def C96 : Fun := ⟨[(.ro Y150), (.rp Y150)], [(.bool, .z)], fun z => F96 z.1 z.2.1⟩
noncomputable def E96 : Env := ⟨7, tyTab tys, oneTab ones, fnTab [(97, C97)], false, [], [(99999, [3], [])], none, [], []⟩
noncomputable def L96 : List (LoopS (Bool × Unit)) := []
theorem C96_ok : QuietOk Tryz.prog 96 C96 := tQ E96 L96 [] Tryz.func96 ty_ok (.cons C97_ok .nil) .nil
noncomputable def F163_R2 (e0_0 : Unit → Option (Int × Unit)) (er_1 : Int × Unit → Option (Int × Unit)) (rec : List (D111) × (D111 → Option (Bool)) × Int × Int × Unit → Option (Int × Unit)) (x2 : List (D111) × (D111 → Option (Bool)) × Int × Int × Unit) : Option (Int × Unit) :=
 (cond (decide (x2.2.2.2.1 < x2.2.2.1))
 (gd (decide ((0 : Int) ≤ x2.2.2.2.1))
 (Option.bind x2.1[(Int.toNat x2.2.2.2.1)]? fun y5 =>
 (Option.bind (x2.2.1 y5) fun y6 =>
 (cond y6
 (er_1 (x2.2.2.2.1, ()))
 (rec (x2.1, x2.2.1, x2.2.2.1, (IntKind.wrap IntKind.i64 (x2.2.2.2.1 + (1 : Int))), ()))))))
 (e0_0 (())))
noncomputable def F163 (a0 : List (D111)) (a1 : (D111 → Option (Bool))) : Option (Int × Unit) :=
 (iter (F163_R2
 (fun y7 =>
 (some ((-(1 : Int)), ())))
 (fun y8 =>
 (some (y8.1, ())))) fuel (a0, a1, (((List.length a0) : Nat) : Int), (0 : Int), ()))
noncomputable def C163 : Fun := ⟨[(.ro (.slice Y111)), (.fn Y111 .bool)], [((.int .i64), .z)], fun z => F163 z.1 z.2.1⟩
noncomputable def E163 : Env := ⟨19, tyTab tys, oneTab ones, fnTab [], false, [], [(2, [0, 1, 7, 8], []), (3, [0, 1, 7, 8], []), (6, [0, 1, 7, 8], []), (7, [], []), (100000, [], []), (100001, [0, 1, 7, 8], []), (99999, [4], [])], none, [], []⟩
noncomputable def L163 : List (LoopS (Int × Unit)) := [⟨2, ⟨[(0, (.pv (.slice Y111))), (1, (.fnA Y111 .bool)), (7, (.pv (.int .i64))), (8, (.pv (.int .i64)))], []⟩, fun κ => F163_R2 (fun y => κ.exit 0 (SSh.mk' ⟨[], []⟩ y)) (fun y => κ.ret (SSh.mk' ⟨[(4, (.pv (.int .i64)))], []⟩ y))⟩]
theorem L163_2 : RoundEq E163 L163 L163[0] (nthLoop (codeOf Tryz.f163) 0) := fun κ N x => by kernel_rfl
theorem C163_ok : QuietOk Tryz.prog 163 C163 := tQ E163 L163 [nthLoop (codeOf Tryz.f163) 0] Tryz.func163 ty_ok .nil (.cons L163[0] (by kernel_rfl) L163_2 .nil)
noncomputable def F135 (a0 : List (D111)) (a1 : (D111 → Option (Bool))) : Option (Bool × Unit) :=
 (Option.bind (F163 a0 a1) fun y0 =>
 (some ((decide (y0.1 ≥ (0 : Int))), ())))
noncomputable def C135 : Fun := ⟨[(.ro (.slice Y111)), (.fn Y111 .bool)], [(.bool, .z)], fun z => F135 z.1 z.2.1⟩
noncomputable def E135 : Env := ⟨9, tyTab tys, oneTab ones, fnTab [(163, C163)], false, [], [(99999, [4], [])], none, [], []⟩
noncomputable def L135 : List (LoopS (Bool × Unit)) := []
theorem C135_ok : QuietOk Tryz.prog 135 C135 := tQ E135 L135 [] Tryz.func135 ty_ok (.cons C163_ok .nil) .nil
noncomputable def F197_R2 (e0_0 : Unit → Option (Int × Unit)) (er_1 : Int × Unit → Option (Int × Unit)) (rec : List (D192) × (D192 → Option (Bool)) × Int × Int × Unit → Option (Int × Unit)) (x2 : List (D192) × (D192 → Option (Bool)) × Int × Int × Unit) : Option (Int × Unit) :=
 (cond (decide (x2.2.2.2.1 < x2.2.2.1))
 (gd (decide ((0 : Int) ≤ x2.2.2.2.1))
 (Option.bind x2.1[(Int.toNat x2.2.2.2.1)]? fun y5 =>
 (Option.bind (x2.2.1 y5) fun y6 =>
 (cond y6
 (er_1 (x2.2.2.2.1, ()))
 (rec (x2.1, x2.2.1, x2.2.2.1, (IntKind.wrap IntKind.i64 (x2.2.2.2.1 + (1 : Int))), ()))))))
 (e0_0 (())))
noncomputable def F197 (a0 : List (D192)) (a1 : (D192 → Option (Bool))) : Option (Int × Unit) :=
 (iter (F197_R2
 (fun y7 =>
 (some ((-(1 : Int)), ())))
 (fun y8 =>
 (some (y8.1, ())))) fuel (a0, a1, (((List.length a0) : Nat) : Int), (0 : Int), ()))
noncomputable def C197 : Fun := ⟨[(.ro (.slice Y192)), (.fn Y192 .bool)], [((.int .i64), .z)], fun z => F197 z.1 z.2.1⟩
noncomputable def E197 : Env := ⟨19, tyTab tys, oneTab ones, fnTab [], false, [], [(2, [0, 1, 7, 8], []), (3, [0, 1, 7, 8], []), (6, [0, 1, 7, 8], []), (7, [], []), (100000, [], []), (100001, [0, 1, 7, 8], []), (99999, [4], [])], none, [], []⟩
noncomputable def L197 : List (LoopS (Int × Unit)) := [⟨2, ⟨[(0, (.pv (.slice Y192))), (1, (.fnA Y192 .bool)), (7, (.pv (.int .i64))), (8, (.pv (.int .i64)))], []⟩, fun κ => F197_R2 (fun y => κ.exit 0 (SSh.mk' ⟨[], []⟩ y)) (fun y => κ.ret (SSh.mk' ⟨[(4, (.pv (.int .i64)))], []⟩ y))⟩]
theorem L197_2 : RoundEq E197 L197 L197[0] (nthLoop (codeOf Tryz.f197) 0) := fun κ N x => by kernel_rfl
theorem C197_ok : QuietOk Tryz.prog 197 C197 := tQ E197 L197 [nthLoop (codeOf Tryz.f197) 0] Tryz.func197 ty_ok .nil (.cons L197[0] (by kernel_rfl) L197_2 .nil)
noncomputable def F181 (a0 : List (D192)) (a1 : (D192 → Option (Bool))) : Option (Bool × Unit) :=
 (Option.bind (F197 a0 a1) fun y0 =>
 (some ((decide (y0.1 ≥ (0 : Int))), ())))
noncomputable def C181 : Fun := ⟨[(.ro (.slice Y192)), (.fn Y192 .bool)], [(.bool, .z)], fun z => F181 z.1 z.2.1⟩
noncomputable def E181 : Env := ⟨9, tyTab tys, oneTab ones, fnTab [(197, C197)], false, [], [(99999, [4], [])], none, [], []⟩
noncomputable def L181 : List (LoopS (Bool × Unit)) := []
theorem C181_ok : QuietOk Tryz.prog 181 C181 := tQ E181 L181 [] Tryz.func181 ty_ok (.cons C197_ok .nil) .nil
noncomputable def F198_R2 (e0_0 : Unit → Option (Int × Unit)) (er_1 : Int × Unit → Option (Int × Unit)) (rec : List (D195) × (D195 → Option (Bool)) × Int × Int × Unit → Option (Int × Unit)) (x2 : List (D195) × (D195 → Option (Bool)) × Int × Int × Unit) : Option (Int × Unit) :=
 (cond (decide (x2.2.2.2.1 < x2.2.2.1))
 (gd (decide ((0 : Int) ≤ x2.2.2.2.1))
 (Option.bind x2.1[(Int.toNat x2.2.2.2.1)]? fun y5 =>
 (Option.bind (x2.2.1 y5) fun y6 =>
 (cond y6
 (er_1 (x2.2.2.2.1, ()))
 (rec (x2.1, x2.2.1, x2.2.2.1, (IntKind.wrap IntKind.i64 (x2.2.2.2.1 + (1 : Int))), ()))))))
 (e0_0 (())))
noncomputable def F198 (a0 : List (D195)) (a1 : (D195 → Option (Bool))) : Option (Int × Unit) :=
 (iter (F198_R2
 (fun y7 =>
 (some ((-(1 : Int)), ())))
 (fun y8 =>
 (some (y8.1, ())))) fuel (a0, a1, (((List.length a0) : Nat) : Int), (0 : Int), ()))
noncomputable def C198 : Fun := ⟨[(.ro (.slice Y195)), (.fn Y195 .bool)], [((.int .i64), .z)], fun z => F198 z.1 z.2.1⟩
noncomputable def E198 : Env := ⟨19, tyTab tys, oneTab ones, fnTab [], false, [], [(2, [0, 1, 7, 8], []), (3, [0, 1, 7, 8], []), (6, [0, 1, 7, 8], []), (7, [], []), (100000, [], []), (100001, [0, 1, 7, 8], []), (99999, [4], [])], none, [], []⟩
noncomputable def L198 : List (LoopS (Int × Unit)) := [⟨2, ⟨[(0, (.pv (.slice Y195))), (1, (.fnA Y195 .bool)), (7, (.pv (.int .i64))), (8, (.pv (.int .i64)))], []⟩, fun κ => F198_R2 (fun y => κ.exit 0 (SSh.mk' ⟨[], []⟩ y)) (fun y => κ.ret (SSh.mk' ⟨[(4, (.pv (.int .i64)))], []⟩ y))⟩]
theorem L198_2 : RoundEq E198 L198 L198[0] (nthLoop (codeOf Tryz.f198) 0) := fun κ N x => by kernel_rfl
theorem C198_ok : QuietOk Tryz.prog 198 C198 := tQ E198 L198 [nthLoop (codeOf Tryz.f198) 0] Tryz.func198 ty_ok .nil (.cons L198[0] (by kernel_rfl) L198_2 .nil)
noncomputable def F183 (a0 : List (D195)) (a1 : (D195 → Option (Bool))) : Option (Bool × Unit) :=
 (Option.bind (F198 a0 a1) fun y0 =>
 (some ((decide (y0.1 ≥ (0 : Int))), ())))
noncomputable def C183 : Fun := ⟨[(.ro (.slice Y195)), (.fn Y195 .bool)], [(.bool, .z)], fun z => F183 z.1 z.2.1⟩
noncomputable def E183 : Env := ⟨9, tyTab tys, oneTab ones, fnTab [(198, C198)], false, [], [(99999, [4], [])], none, [], []⟩
noncomputable def L183 : List (LoopS (Bool × Unit)) := []
theorem C183_ok : QuietOk Tryz.prog 183 C183 := tQ E183 L183 [] Tryz.func183 ty_ok (.cons C198_ok .nil) .nil
noncomputable def F185 (a0 : D195) : Option (Bool × Unit) :=
 (Option.bind (F158 a0.2.1) fun y1 =>
 (cond (!y1.1)
 (some (false, ()))
 (Option.bind (F180 a0.2.2.1) fun y2 =>
 (cond (!y2.1)
 (some (false, ()))
 (cond (a0.1 == (7 : Int))
 (some ((a0.2.2.1.1 == (4 : Int)), ()))
 (cond (a0.1 == (8 : Int))
 (some ((a0.2.2.1.1 == (1 : Int)), ()))
 (cond (a0.1 == (9 : Int))
 (cond (a0.2.2.1.1 == (2 : Int))
 (Option.bind (F36 a0.2.2.1.2.1 (0 : Int) (5 : Int)) fun y4 =>
 (some (y4.1, ())))
 (some (false, ())))
 (cond (a0.1 == (10 : Int))
 (cond (a0.2.2.1.1 == (2 : Int))
 (some ((decide (a0.2.2.1.2.1 ≥ (0 : Int))), ()))
 (some (false, ())))
 (Option.bind (F36 a0.1 (1 : Int) (6 : Int)) fun y5 =>
 (some (y5.1, ())))))))))))
noncomputable def C185 : Fun := ⟨[(.ro Y195)], [(.bool, .z)], fun z => F185 z.1⟩
noncomputable def E185 : Env := ⟨54, tyTab tys, oneTab ones, fnTab [(36, C36), (158, C158), (180, C180)], false, [], [(3, [1], []), (12, [1], []), (100000, [1], []), (99999, [2], [])], none, [], []⟩
noncomputable def L185 : List (LoopS (Bool × Unit)) := []
theorem C185_ok : QuietOk Tryz.prog 185 C185 := tQ E185 L185 [] Tryz.func185 ty_ok (.cons C36_ok (.cons C158_ok (.cons C180_ok .nil))) .nil
noncomputable def F184 (a0 : D195) : Option (Bool × Unit) :=
 (Option.bind (F185 a0) fun y0 =>
 (some ((!y0.1), ())))
noncomputable def C184 : Fun := ⟨[(.ro Y195)], [(.bool, .z)], fun z => F184 z.1⟩
noncomputable def E184 : Env := ⟨6, tyTab tys, oneTab ones, fnTab [(185, C185)], false, [], [(99999, [2], [])], none, [], []⟩
noncomputable def L184 : List (LoopS (Bool × Unit)) := []
theorem C184_ok : QuietOk Tryz.prog 184 C184 := tQ E184 L184 [] Tryz.func184 ty_ok (.cons C185_ok .nil) .nil
noncomputable def F182 (a0 : D192) : Option (Bool × Unit) :=
 (cond (decide ((((List.length a0.1) : Nat) : Int) > (4 : Int)))
 (some (true, ()))
 (Option.bind (F183 a0.1 (fun (v2 : D195) => (Option.map (fun (v3 : (Bool × Unit)) => v3.1) (F184 v2)))) fun y0 =>
 (some (y0.1, ()))))
noncomputable def C182 : Fun := ⟨[(.ro Y192)], [(.bool, .z)], fun z => F182 z.1⟩
noncomputable def E182 : Env := ⟨12, tyTab tys, oneTab ones, fnTab [(183, C183), (184, C184)], false, [], [(99999, [2], [])], none, [], []⟩
noncomputable def L182 : List (LoopS (Bool × Unit)) := []
theorem C182_ok : QuietOk Tryz.prog 182 C182 := tQ E182 L182 [] Tryz.func182 ty_ok (.cons C183_ok (.cons C184_ok .nil)) .nil
noncomputable def F164 (a0 : D109) : Option (Bool × Unit) :=
 (Option.bind (F36 (((List.length a0.1) : Nat) : Int) (1 : Int) (3 : Int)) fun y0 =>
 (cond y0.1
 (Option.bind (F181 a0.1 (fun (v3 : D192) => (Option.map (fun (v4 : (Bool × Unit)) => v4.1) (F182 v3)))) fun y1 =>
 (some ((!y1.1), ())))
 (some (false, ()))))
noncomputable def C164 : Fun := ⟨[(.ro Y109)], [(.bool, .z)], fun z => F164 z.1⟩
noncomputable def E164 : Env := ⟨13, tyTab tys, oneTab ones, fnTab [(36, C36), (181, C181), (182, C182)], false, [], [(99999, [2], [])], none, [], []⟩
noncomputable def L164 : List (LoopS (Bool × Unit)) := []
theorem C164_ok : QuietOk Tryz.prog 164 C164 := tQ E164 L164 [] Tryz.func164 ty_ok (.cons C36_ok (.cons C181_ok (.cons C182_ok .nil))) .nil
noncomputable def F137 (a0 : D111) : Option (Bool × Unit) :=
 (Option.bind (F94 a0.1) fun y0 =>
 (cond y0.1
 (Option.bind (F164 a0.2.1) fun y1 =>
 (some (y1.1, ())))
 (some (false, ()))))
noncomputable def C137 : Fun := ⟨[(.ro Y111)], [(.bool, .z)], fun z => F137 z.1⟩
noncomputable def E137 : Env := ⟨11, tyTab tys, oneTab ones, fnTab [(94, C94), (164, C164)], false, [], [(99999, [2], [])], none, [], []⟩
noncomputable def L137 : List (LoopS (Bool × Unit)) := []
theorem C137_ok : QuietOk Tryz.prog 137 C137 := tQ E137 L137 [] Tryz.func137 ty_ok (.cons C94_ok (.cons C164_ok .nil)) .nil
noncomputable def F136 (a0 : D111) : Option (Bool × Unit) :=
 (Option.bind (F137 a0) fun y0 =>
 (some ((!y0.1), ())))
noncomputable def C136 : Fun := ⟨[(.ro Y111)], [(.bool, .z)], fun z => F136 z.1⟩
noncomputable def E136 : Env := ⟨6, tyTab tys, oneTab ones, fnTab [(137, C137)], false, [], [(99999, [2], [])], none, [], []⟩
noncomputable def L136 : List (LoopS (Bool × Unit)) := []
theorem C136_ok : QuietOk Tryz.prog 136 C136 := tQ E136 L136 [] Tryz.func136 ty_ok (.cons C137_ok .nil) .nil
noncomputable def F99 (a0 : List (D111)) : Option (Bool × Unit) :=
 (Option.bind (F135 a0 (fun (v2 : D111) => (Option.map (fun (v3 : (Bool × Unit)) => v3.1) (F136 v2)))) fun y0 =>
 (some ((!y0.1), ())))
noncomputable def C99 : Fun := ⟨[(.ro (.slice Y111))], [(.bool, .z)], fun z => F99 z.1⟩
noncomputable def E99 : Env := ⟨6, tyTab tys, oneTab ones, fnTab [(135, C135), (136, C136)], false, [], [(99999, [2], [])], none, [], []⟩
noncomputable def L99 : List (LoopS (Bool × Unit)) := []
theorem C99_ok : QuietOk Tryz.prog 99 C99 := tQ E99 L99 [] Tryz.func99 ty_ok (.cons C135_ok (.cons C136_ok .nil)) .nil
noncomputable def F101 (a0 : D82) : Option (Bool × Unit) :=
 (Option.bind (F94 a0.1) fun y0 =>
 (cond y0.1
 (Option.bind (F36 a0.2.1 (0 : Int) (19 : Int)) fun y1 =>
 (cond y1.1
 (Option.bind (F132 a0.2.2.1 a0.2.2.2.1 a0.2.1) fun y2 =>
 (some (y2.1, ())))
 (some (false, ()))))
 (some (false, ()))))
noncomputable def C101 : Fun := ⟨[(.ro Y82)], [(.bool, .z)], fun z => F101 z.1⟩
noncomputable def E101 : Env := ⟨20, tyTab tys, oneTab ones, fnTab [(36, C36), (94, C94), (132, C132)], false, [], [(99999, [2], [])], none, [], []⟩
noncomputable def L101 : List (LoopS (Bool × Unit)) := []
theorem C101_ok : QuietOk Tryz.prog 101 C101 := tQ E101 L101 [] Tryz.func101 ty_ok (.cons C36_ok (.cons C94_ok (.cons C132_ok .nil))) .nil
noncomputable def F139 (a0 : D150) : Option (Bool × Unit) :=
 (Option.bind (F101 a0.1) fun y0 =>
 (cond y0.1
 (Option.bind (F132 (!a0.2.2.1) a0.2.1 a0.1.2.1) fun y1 =>
 (some (y1.1, ())))
 (some (false, ()))))
noncomputable def C139 : Fun := ⟨[(.ro Y150)], [(.bool, .z)], fun z => F139 z.1⟩
noncomputable def E139 : Env := ⟨17, tyTab tys, oneTab ones, fnTab [(101, C101), (132, C132)], false, [], [(99999, [2], [])], none, [], []⟩
noncomputable def L139 : List (LoopS (Bool × Unit)) := []
theorem C139_ok : QuietOk Tryz.prog 139 C139 := tQ E139 L139 [] Tryz.func139 ty_ok (.cons C101_ok (.cons C132_ok .nil)) .nil
noncomputable def F138 (a0 : D150) : Option (Bool × Unit) :=
 (Option.bind (F139 a0) fun y0 =>
 (some ((!y0.1), ())))
noncomputable def C138 : Fun := ⟨[(.ro Y150)], [(.bool, .z)], fun z => F138 z.1⟩
noncomputable def E138 : Env := ⟨6, tyTab tys, oneTab ones, fnTab [(139, C139)], false, [], [(99999, [2], [])], none, [], []⟩
noncomputable def L138 : List (LoopS (Bool × Unit)) := []
theorem C138_ok : QuietOk Tryz.prog 138 C138 := tQ E138 L138 [] Tryz.func138 ty_ok (.cons C139_ok .nil) .nil
end Go.V
