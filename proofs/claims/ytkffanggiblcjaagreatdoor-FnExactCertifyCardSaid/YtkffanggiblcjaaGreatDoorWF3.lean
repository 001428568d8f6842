/- What functions of the program compute, printed by a program of ours. No condition. -/
import Derived.Test.YtkffanggiblcjaaGreatDoorWF2
namespace Go.V
open Go.Proofs
set_option maxRecDepth 100000
set_option linter.unusedVariables false
noncomputable def F158 (a0 : D84) : Option (Bool × Unit) :=
 (cond (a0.1 == (5 : Int))
 (Option.bind (F194 a0) fun y0 =>
 (some (y0.1, ())))
 (some (false, ())))
noncomputable def C158 : Fun := ⟨[(.ro Y84)], [(.bool, .z)], fun z => F158 z.1⟩
noncomputable def E158 : Env := ⟨10, tyTab tys, oneTab ones, fnTab [(194, C194)], false, [], [(99999, [2], [])], none, [], []⟩
noncomputable def L158 : List (LoopS (Bool × Unit)) := []
theorem C158_ok : QuietOk Tryz.prog 158 C158 := tQ E158 L158 [] Tryz.func158 ty_ok (.cons C194_ok .nil) .nil
noncomputable def F179 (a0 : Bool) (a1 : D84) (a2 : Int) : Option (Bool × Unit) :=
 (cond a0
 (some (((decide (a1.1 = (0 : Int))) && ((decide (a1.2.1 = (0 : Int))) && ((a1.2.2.1 == []) && true))), ()))
 (Option.bind (F109 a1) fun y1 =>
 (Option.bind (F158 a1) fun y2 =>
 (cond y2.1
 (cond y1.2.1
 (some ((y1.1 == a2), ()))
 (some (false, ())))
 (some (false, ()))))))
noncomputable def C179 : Fun := ⟨[(.ro .bool), (.ro Y84), (.ro (.int .i64))], [(.bool, .z)], fun z => F179 z.1 z.2.1 z.2.2.1⟩
noncomputable def E179 : Env := ⟨28, tyTab tys, oneTab ones, fnTab [(109, C109), (158, C158)], false, [], [(3, [2, 4], []), (99999, [6], [])], none, [], []⟩
noncomputable def L179 : List (LoopS (Bool × Unit)) := []
theorem C179_ok : QuietOk Tryz.prog 179 C179 := tQ E179 L179 [] Tryz.func179 ty_ok (.cons C109_ok (.cons C158_ok .nil)) .nil
noncomputable def F178 (a0 : D106) : Option (Bool × Unit) :=
 (Option.bind (F107 a0.1) fun y0 =>
 (cond y0.1
 (Option.bind (F105 a0.2.1 (0 : Int) (19 : Int)) fun y1 =>
 (cond y1.1
 (Option.bind (F179 a0.2.2.1 a0.2.2.2.1 a0.2.1) fun y2 =>
 (some (y2.1, ())))
 (some (false, ()))))
 (some (false, ()))))
noncomputable def C178 : Fun := ⟨[(.ro Y106)], [(.bool, .z)], fun z => F178 z.1⟩
noncomputable def E178 : Env := ⟨20, tyTab tys, oneTab ones, fnTab [(105, C105), (107, C107), (179, C179)], false, [], [(99999, [2], [])], none, [], []⟩
noncomputable def L178 : List (LoopS (Bool × Unit)) := []
theorem C178_ok : QuietOk Tryz.prog 178 C178 := tQ E178 L178 [] Tryz.func178 ty_ok (.cons C105_ok (.cons C107_ok (.cons C179_ok .nil))) .nil
noncomputable def F128 (a0 : D108) : Option (Bool × Unit) :=
 (Option.bind (F178 a0.1) fun y0 =>
 (cond y0.1
 (Option.bind (F179 (!a0.2.2.1) a0.2.1 a0.1.2.1) fun y1 =>
 (some (y1.1, ())))
 (some (false, ()))))
noncomputable def C128 : Fun := ⟨[(.ro Y108)], [(.bool, .z)], fun z => F128 z.1⟩
noncomputable def E128 : Env := ⟨17, tyTab tys, oneTab ones, fnTab [(178, C178), (179, C179)], false, [], [(99999, [2], [])], none, [], []⟩
noncomputable def L128 : List (LoopS (Bool × Unit)) := []
theorem C128_ok : QuietOk Tryz.prog 128 C128 := tQ E128 L128 [] Tryz.func128 ty_ok (.cons C178_ok (.cons C179_ok .nil)) .nil
noncomputable def F127 (a0 : D108) : Option (Bool × Unit) :=
 (Option.bind (F128 a0) fun y0 =>
 (some ((!y0.1), ())))
noncomputable def C127 : Fun := ⟨[(.ro Y108)], [(.bool, .z)], fun z => F127 z.1⟩
noncomputable def E127 : Env := ⟨6, tyTab tys, oneTab ones, fnTab [(128, C128)], false, [], [(99999, [2], [])], none, [], []⟩
noncomputable def L127 : List (LoopS (Bool × Unit)) := []
theorem C127_ok : QuietOk Tryz.prog 127 C127 := tQ E127 L127 [] Tryz.func127 ty_ok (.cons C128_ok .nil) .nil
noncomputable def F82 (a0 : List (D108)) : Option (Bool × Unit) :=
 (Option.bind (F77 a0 (fun (v2 : D108) => (Option.map (fun (v3 : (Bool × Unit)) => v3.1) (F127 v2)))) fun y0 =>
 (some ((!y0.1), ())))
noncomputable def C82 : Fun := ⟨[(.ro (.slice Y108))], [(.bool, .z)], fun z => F82 z.1⟩
noncomputable def E82 : Env := ⟨6, tyTab tys, oneTab ones, fnTab [(77, C77), (127, C127)], false, [], [(99999, [2], [])], none, [], []⟩
noncomputable def L82 : List (LoopS (Bool × Unit)) := []
theorem C82_ok : QuietOk Tryz.prog 82 C82 := tQ E82 L82 [] Tryz.func82 ty_ok (.cons C77_ok (.cons C127_ok .nil)) .nil
noncomputable def F36_R2 (e0_0 : D25 × Unit → Option (Bool × Unit)) (er_1 : Bool × Unit → Option (Bool × Unit)) (rec : List (D108) × Int × Int × D25 × Unit → Option (Bool × Unit)) (x2 : List (D108) × Int × Int × D25 × Unit) : Option (Bool × Unit) :=
 (cond (decide (x2.2.2.1 < x2.2.1))
 (gd (decide ((0 : Int) ≤ x2.2.2.1))
 (Option.bind x2.1[(Int.toNat x2.2.2.1)]? fun y5 =>
 (gd (decide ((0 : Int) ≤ x2.2.2.1))
 (gd (decide (x2.2.2.1 ≤ (((List.length x2.2.2.2.1.2.2.2.1) : Nat) : Int)))
 (Option.bind (F77 (List.drop (Int.toNat (0 : Int)) (List.take (Int.toNat x2.2.2.1) x2.2.2.2.1.2.2.2.1)) (fun (v9 : D108) => (Option.map (fun (v10 : (Bool × Unit)) => v10.1) (F78 v9 y5)))) fun y6 =>
 (cond y6.1
 (er_1 (false, ()))
 (rec (x2.1, x2.2.1, (IntKind.wrap IntKind.i64 (x2.2.2.1 + (1 : Int))), x2.2.2.2.1, ()))))))))
 (e0_0 (x2.2.2.2.1, ())))
noncomputable def F36 (a0 : D25) : Option (Bool × Unit) :=
 (iter (F36_R2
 (fun y7 =>
 (cond (decide (y7.1.1 ≥ (0 : Int)))
 (Option.bind (F80 y7.1.2.1) fun y9 =>
 (cond y9.1
 (cond (decide (y7.1.2.1 > y7.1.1))
 (cond (decide ((((List.length y7.1.2.2.1) : Nat) : Int) ≤ (20 : Int)))
 (cond (decide ((((List.length y7.1.2.2.2.1) : Nat) : Int) ≤ (60 : Int)))
 (Option.bind (F81 y7.1.2.2.1) fun y10 =>
 (cond y10.1
 (Option.bind (F82 y7.1.2.2.2.1) fun y11 =>
 (some (y11.1, ())))
 (some (false, ()))))
 (some (false, ())))
 (some (false, ())))
 (some (false, ())))
 (some (false, ()))))
 (some (false, ()))))
 (fun y8 =>
 (some (y8.1, ())))) fuel (a0.2.2.2.1, (((List.length a0.2.2.2.1) : Nat) : Int), (0 : Int), a0, ()))
noncomputable def C36 : Fun := ⟨[(.ro Y25)], [(.bool, .z)], fun z => F36 z.1⟩
noncomputable def E36 : Env := ⟨57, tyTab tys, oneTab ones, fnTab [(77, C77), (78, C78), (80, C80), (81, C81), (82, C82)], false, [], [(2, [1, 6, 7, 8], []), (3, [1, 6, 7, 8], []), (6, [1, 6, 7, 8], []), (7, [1], []), (100000, [1], []), (100001, [1, 6, 7, 8], []), (99999, [2], [])], none, [], []⟩
noncomputable def L36 : List (LoopS (Bool × Unit)) := [⟨2, ⟨[(1, (.ptr 8 [])), (6, (.pv (.slice Y108))), (7, (.pv (.int .i64))), (8, (.pv (.int .i64)))], [(8, (.data true Y25 .z))]⟩, fun κ => F36_R2 (fun y => κ.exit 0 (SSh.mk' ⟨[(1, (.ptr 8 []))], [(8, (.data true Y25 .z))]⟩ y)) (fun y => κ.ret (SSh.mk' ⟨[(2, (.pv .bool))], []⟩ y))⟩]
theorem L36_2 : RoundEq E36 L36 L36[0] (nthLoop (codeOf Tryz.f36) 0) := fun κ N x => by kernel_rfl
theorem C36_ok : QuietOk Tryz.prog 36 C36 := tQ E36 L36 [nthLoop (codeOf Tryz.f36) 0] Tryz.func36 ty_ok (.cons C77_ok (.cons C78_ok (.cons C80_ok (.cons C81_ok (.cons C82_ok .nil))))) (.cons L36[0] (by kernel_rfl) L36_2 .nil)
noncomputable def F35_R2 (e0_0 : List (D25) × Unit → Option (Bool × Unit)) (er_1 : Bool × Unit → Option (Bool × Unit)) (rec : List (D25) × List (D25) × Int × Int × Unit → Option (Bool × Unit)) (x2 : List (D25) × List (D25) × Int × Int × Unit) : Option (Bool × Unit) :=
 (cond (decide (x2.2.2.2.1 < x2.2.2.1))
 (let j9 : List (D25) × List (D25) × Int × Int × Unit → Option (Bool × Unit) := fun (y10 : List (D25) × List (D25) × Int × Int × Unit) =>
 (rec (y10.1, y10.2.1, y10.2.2.1, (IntKind.wrap IntKind.i64 (y10.2.2.2.1 + (1 : Int))), ()))
 (gd (decide ((0 : Int) ≤ x2.2.2.2.1))
 (Option.bind x2.2.1[(Int.toNat x2.2.2.2.1)]? fun y5 =>
 (Option.bind (F36 y5) fun y6 =>
 (cond (!y6.1)
 (er_1 (false, ()))
 (cond y5.2.2.2.2.1
 (cond y5.2.2.2.2.2.1
 (er_1 (false, ()))
 (cond (decide (x2.2.2.2.1 > (0 : Int)))
 (gd (decide ((0 : Int) ≤ (IntKind.wrap IntKind.i64 (x2.2.2.2.1 - (1 : Int)))))
 (Option.bind x2.1[(Int.toNat (IntKind.wrap IntKind.i64 (x2.2.2.2.1 - (1 : Int))))]? fun y7 =>
 (cond (decide (y7.2.1 ≥ y5.2.1))
 (er_1 (false, ()))
 (j9 (x2.1, x2.2.1, x2.2.2.1, x2.2.2.2.1, ())))))
 (j9 (x2.1, x2.2.1, x2.2.2.1, x2.2.2.2.1, ()))))
 (cond (decide (x2.2.2.2.1 > (0 : Int)))
 (gd (decide ((0 : Int) ≤ (IntKind.wrap IntKind.i64 (x2.2.2.2.1 - (1 : Int)))))
 (Option.bind x2.1[(Int.toNat (IntKind.wrap IntKind.i64 (x2.2.2.2.1 - (1 : Int))))]? fun y8 =>
 (cond (decide (y8.2.1 ≥ y5.2.1))
 (er_1 (false, ()))
 (j9 (x2.1, x2.2.1, x2.2.2.1, x2.2.2.2.1, ())))))
 (j9 (x2.1, x2.2.1, x2.2.2.1, x2.2.2.2.1, ())))))))))
 (e0_0 (x2.1, ())))
noncomputable def F35 (a0 : List (D25)) : Option (Bool × Unit) :=
 (iter (F35_R2
 (fun y11 =>
 (some ((decide ((((List.length y11.1) : Nat) : Int) ≤ (30 : Int))), ())))
 (fun y12 =>
 (some (y12.1, ())))) fuel (a0, a0, (((List.length a0) : Nat) : Int), (0 : Int), ()))
noncomputable def C35 : Fun := ⟨[(.ro (.slice Y25))], [(.bool, .z)], fun z => F35 z.1⟩
noncomputable def E35 : Env := ⟨42, tyTab tys, oneTab ones, fnTab [(36, C36)], false, [], [(2, [0, 5, 6, 7], []), (3, [0, 5, 6, 7], []), (6, [0, 5, 6, 7], []), (7, [0], []), (100000, [0], []), (100001, [0, 5, 6, 7], []), (99999, [2], [])], none, [], []⟩
noncomputable def L35 : List (LoopS (Bool × Unit)) := [⟨2, ⟨[(0, (.pv (.slice Y25))), (5, (.pv (.slice Y25))), (6, (.pv (.int .i64))), (7, (.pv (.int .i64)))], []⟩, fun κ => F35_R2 (fun y => κ.exit 0 (SSh.mk' ⟨[(0, (.pv (.slice Y25)))], []⟩ y)) (fun y => κ.ret (SSh.mk' ⟨[(2, (.pv .bool))], []⟩ y))⟩]
theorem L35_2 : RoundEq E35 L35 L35[0] (nthLoop (codeOf Tryz.f35) 0) := fun κ N x => by kernel_rfl
theorem C35_ok : QuietOk Tryz.prog 35 C35 := tQ E35 L35 [nthLoop (codeOf Tryz.f35) 0] Tryz.func35 ty_ok (.cons C36_ok .nil) (.cons L35[0] (by kernel_rfl) L35_2 .nil)
noncomputable def F220 (a0 : List (D170)) : Option D157 :=
 (let j1 : List (D170) × Unit → Option D157 := fun (y2 : List (D170) × Unit) =>
 (gd (decide (((List.length ([] : List D170)) + (List.length y2.1)) ≤ lim))
 (some (([] ++ y2.1), ())))
 (cond (List.isEmpty a0)
 (both
 (some ([], ()))
 (j1 (a0, ())))
 (j1 (a0, ()))))
noncomputable def C220 : Fun := ⟨[(.ro (.slice Y170))], [((.slice Y170), (.own .z))], fun z => F220 z.1⟩
noncomputable def E220 : Env := ⟨8, tyTab tys, oneTab ones, fnTab [], true, [], [(3, [0], []), (99999, [2], [])], none, [], []⟩
noncomputable def L220 : List (LoopS D157) := []
theorem C220_ok : FreshOk Tryz.prog 220 C220 := tF E220 L220 [] Tryz.func220 ty_ok .nil .nil
noncomputable def F180_R3 (e0_0 : D44 × D44 × Unit → Option (D44 × Unit)) (rec : List (D157) × Int × Int × D44 × D44 × Unit → Option (D44 × Unit)) (x2 : List (D157) × Int × Int × D44 × D44 × Unit) : Option (D44 × Unit) :=
 (cond (decide (x2.2.2.1 < x2.2.1))
 (gd (decide ((0 : Int) ≤ x2.2.2.1))
 (Option.bind x2.1[(Int.toNat x2.2.2.1)]? fun y4 =>
 (Option.bind (F220 y4.1) fun y5 =>
 (gd (decide (((List.length x2.2.2.2.2.1.1) + (List.length [(y5.1, ())])) ≤ lim))
 (rec (x2.1, x2.2.1, (IntKind.wrap IntKind.i64 (x2.2.2.1 + (1 : Int))), x2.2.2.2.1, ((x2.2.2.2.2.1.1 ++ [(y5.1, ())]), x2.2.2.2.2.1.2), ()))))))
 (e0_0 (x2.2.2.2.1, x2.2.2.2.2.1, ())))
noncomputable def F180 (a0 : D44) : Option (D44 × Unit) :=
 (iter (F180_R3
 (fun y6 =>
 (some (y6.2.1, ())))) fuel (a0.1, (((List.length a0.1) : Nat) : Int), (0 : Int), ([], ()), ([], ()), ()))
noncomputable def C180 : Fun := ⟨[(.ro Y44)], [(Y44, (.pr (.own (.pr (.own .z) .z)) .z))], fun z => F180 z.1⟩
noncomputable def E180 : Env := ⟨25, tyTab tys, oneTab ones, fnTab [(220, C220)], true, [], [(3, [2, 3, 8, 9, 10], []), (4, [2, 3, 8, 9, 10], []), (7, [2, 3], []), (100000, [2, 3], []), (100001, [2, 3, 8, 9, 10], []), (99999, [2], [])], none, [], []⟩
noncomputable def L180 : List (LoopS (D44 × Unit)) := [⟨3, ⟨[(2, (.ptr 16 [])), (3, (.ptr 24 [])), (8, (.pv (.slice Y157))), (9, (.pv (.int .i64))), (10, (.pv (.int .i64)))], [(16, (.data true Y44 (.pr (.own (.pr (.own .z) .z)) .z))), (24, (.data true Y44 (.pr (.own (.pr (.own .z) .z)) .z)))]⟩, fun κ => F180_R3 (fun y => κ.exit 0 (SSh.mk' ⟨[(2, (.ptr 16 [])), (3, (.ptr 24 []))], [(16, (.data true Y44 (.pr (.own (.pr (.own .z) .z)) .z))), (24, (.data true Y44 (.pr (.own (.pr (.own .z) .z)) .z)))]⟩ y))⟩]
theorem L180_3 : RoundEq E180 L180 L180[0] (nthLoop (codeOf Tryz.f180) 0) := fun κ N x => by kernel_rfl
theorem C180_ok : FreshOk Tryz.prog 180 C180 := tF E180 L180 [nthLoop (codeOf Tryz.f180) 0] Tryz.func180 ty_ok (.consFr C220_ok .nil) (.cons L180[0] (by kernel_rfl) L180_3 .nil)
noncomputable def F129_R3 (e0_0 : List (D103) × Unit → Option (List (D103) × Unit)) (rec : List (D103) × Int × Int × List (D103) × Unit → Option (List (D103) × Unit)) (x2 : List (D103) × Int × Int × List (D103) × Unit) : Option (List (D103) × Unit) :=
 (cond (decide (x2.2.2.1 < x2.2.1))
 (gd (decide ((0 : Int) ≤ x2.2.2.1))
 (Option.bind x2.1[(Int.toNat x2.2.2.1)]? fun y4 =>
 (Option.bind (F180 y4.2.1) fun y5 =>
 (gd (decide (((List.length x2.2.2.2.1) + (List.length [(y4.1, (y5.1, ()))])) ≤ lim))
 (rec (x2.1, x2.2.1, (IntKind.wrap IntKind.i64 (x2.2.2.1 + (1 : Int))), (x2.2.2.2.1 ++ [(y4.1, (y5.1, ()))]), ()))))))
 (e0_0 (x2.2.2.2.1, ())))
noncomputable def F129 (a0 : List (D103)) : Option (List (D103) × Unit) :=
 (iter (F129_R3
 (fun y6 =>
 (some (y6.1, ())))) fuel (a0, (((List.length a0) : Nat) : Int), (0 : Int), [], ()))
noncomputable def C129 : Fun := ⟨[(.ro (.slice Y103))], [((.slice Y103), (.own (.pr .z (.pr (.pr (.own (.pr (.own .z) .z)) .z) .z))))], fun z => F129 z.1⟩
noncomputable def E129 : Env := ⟨24, tyTab tys, oneTab ones, fnTab [(180, C180)], true, [], [(3, [3, 7, 8, 9], []), (4, [3, 7, 8, 9], []), (7, [3], []), (100000, [3], []), (100001, [3, 7, 8, 9], []), (99999, [2], [])], none, [], []⟩
noncomputable def L129 : List (LoopS (List (D103) × Unit)) := [⟨3, ⟨[(3, (.ref (.slice Y103) 48 [])), (7, (.pv (.slice Y103))), (8, (.pv (.int .i64))), (9, (.pv (.int .i64)))], [(48, (.data false (.slice Y103) (.own (.pr .z (.pr (.pr (.own (.pr (.own .z) .z)) .z) .z)))))]⟩, fun κ => F129_R3 (fun y => κ.exit 0 (SSh.mk' ⟨[(3, (.ref (.slice Y103) 48 []))], [(48, (.data false (.slice Y103) (.own (.pr .z (.pr (.pr (.own (.pr (.own .z) .z)) .z) .z)))))]⟩ y))⟩]
theorem L129_3 : RoundEq E129 L129 L129[0] (nthLoop (codeOf Tryz.f129) 0) := fun κ N x => by kernel_rfl
theorem C129_ok : FreshOk Tryz.prog 129 C129 := tF E129 L129 [nthLoop (codeOf Tryz.f129) 0] Tryz.func129 ty_ok (.consFr C180_ok .nil) (.cons L129[0] (by kernel_rfl) L129_3 .nil)
noncomputable def F130 (a0 : List (D108)) : Option (List (D108) × Unit) :=
 (let j1 : List (D108) × Unit → Option (List (D108) × Unit) := fun (y2 : List (D108) × Unit) =>
 (gd (decide (((List.length ([] : List D108)) + (List.length y2.1)) ≤ lim))
 (some (([] ++ y2.1), ())))
 (cond (List.isEmpty a0)
 (both
 (some ([], ()))
 (j1 (a0, ())))
 (j1 (a0, ()))))
noncomputable def C130 : Fun := ⟨[(.ro (.slice Y108))], [((.slice Y108), (.own .z))], fun z => F130 z.1⟩
noncomputable def E130 : Env := ⟨8, tyTab tys, oneTab ones, fnTab [], true, [], [(3, [0], []), (99999, [2], [])], none, [], []⟩
noncomputable def L130 : List (LoopS (List (D108) × Unit)) := []
theorem C130_ok : FreshOk Tryz.prog 130 C130 := tF E130 L130 [] Tryz.func130 ty_ok .nil .nil
noncomputable def F85 (a0 : D25) : Option (D25 × Unit) :=
 (Option.bind (F129 a0.2.2.1) fun y0 =>
 (Option.bind (F130 a0.2.2.2.1) fun y1 =>
 (some ((a0.1, (a0.2.1, (y0.1, (y1.1, a0.2.2.2.2)))), ()))))
noncomputable def C85 : Fun := ⟨[(.ro Y25)], [(Y25, (.pr .z (.pr .z (.pr (.own (.pr .z (.pr (.pr (.own (.pr (.own .z) .z)) .z) .z))) (.pr (.own .z) .z)))))], fun z => F85 z.1⟩
noncomputable def E85 : Env := ⟨12, tyTab tys, oneTab ones, fnTab [(129, C129), (130, C130)], true, [], [(99999, [2], [])], none, [], []⟩
noncomputable def L85 : List (LoopS (D25 × Unit)) := []
theorem C85_ok : FreshOk Tryz.prog 85 C85 := tF E85 L85 [] Tryz.func85 ty_ok (.consFr C129_ok (.consFr C130_ok .nil)) .nil
noncomputable def F38_R3 (e0_0 : List (D25) × Unit → Option (List (D25) × Unit)) (rec : List (D25) × Int × Int × List (D25) × Unit → Option (List (D25) × Unit)) (x2 : List (D25) × Int × Int × List (D25) × Unit) : Option (List (D25) × Unit) :=
 (cond (decide (x2.2.2.1 < x2.2.1))
 (gd (decide ((0 : Int) ≤ x2.2.2.1))
 (Option.bind x2.1[(Int.toNat x2.2.2.1)]? fun y4 =>
 (Option.bind (F85 y4) fun y5 =>
 (gd (decide (((List.length x2.2.2.2.1) + (List.length [y5.1])) ≤ lim))
 (rec (x2.1, x2.2.1, (IntKind.wrap IntKind.i64 (x2.2.2.1 + (1 : Int))), (x2.2.2.2.1 ++ [y5.1]), ()))))))
 (e0_0 (x2.2.2.2.1, ())))
noncomputable def F38 (a0 : List (D25)) : Option (List (D25) × Unit) :=
 (iter (F38_R3
 (fun y6 =>
 (some (y6.1, ())))) fuel (a0, (((List.length a0) : Nat) : Int), (0 : Int), [], ()))
noncomputable def C38 : Fun := ⟨[(.ro (.slice Y25))], [((.slice Y25), (.own (.pr .z (.pr .z (.pr (.own (.pr .z (.pr (.pr (.own (.pr (.own .z) .z)) .z) .z))) (.pr (.own .z) .z))))))], fun z => F38 z.1⟩
noncomputable def E38 : Env := ⟨20, tyTab tys, oneTab ones, fnTab [(85, C85)], true, [], [(3, [3, 7, 8, 9], []), (4, [3, 7, 8, 9], []), (7, [3], []), (100000, [3], []), (100001, [3, 7, 8, 9], []), (99999, [2], [])], none, [], []⟩
noncomputable def L38 : List (LoopS (List (D25) × Unit)) := [⟨3, ⟨[(3, (.ref (.slice Y25) 48 [])), (7, (.pv (.slice Y25))), (8, (.pv (.int .i64))), (9, (.pv (.int .i64)))], [(48, (.data false (.slice Y25) (.own (.pr .z (.pr .z (.pr (.own (.pr .z (.pr (.pr (.own (.pr (.own .z) .z)) .z) .z))) (.pr (.own .z) .z)))))))]⟩, fun κ => F38_R3 (fun y => κ.exit 0 (SSh.mk' ⟨[(3, (.ref (.slice Y25) 48 []))], [(48, (.data false (.slice Y25) (.own (.pr .z (.pr .z (.pr (.own (.pr .z (.pr (.pr (.own (.pr (.own .z) .z)) .z) .z))) (.pr (.own .z) .z)))))))]⟩ y))⟩]
theorem L38_3 : RoundEq E38 L38 L38[0] (nthLoop (codeOf Tryz.f38) 0) := fun κ N x => by kernel_rfl
theorem C38_ok : FreshOk Tryz.prog 38 C38 := tF E38 L38 [nthLoop (codeOf Tryz.f38) 0] Tryz.func38 ty_ok (.consFr C85_ok .nil) (.cons L38[0] (by kernel_rfl) L38_3 .nil)
noncomputable def F84 (a0 : D108) (a1 : D108) : Option (Bool × Unit) :=
 (Option.bind (F79 a1 a0) fun y0 =>
 (some (y0.1, ())))
noncomputable def C84 : Fun := ⟨[(.ro Y108), (.rp Y108)], [(.bool, .z)], fun z => F84 z.1 z.2.1⟩
noncomputable def E84 : Env := ⟨7, tyTab tys, oneTab ones, fnTab [(79, C79)], false, [], [(99999, [3], [])], none, [], []⟩
noncomputable def L84 : List (LoopS (Bool × Unit)) := []
theorem C84_ok : QuietOk Tryz.prog 84 C84 := tQ E84 L84 [] Tryz.func84 ty_ok (.cons C79_ok .nil) .nil
noncomputable def F83 (a0 : D108) (a1 : D25) : Option (Bool × Unit) :=
 (Option.bind (F77 a1.2.2.2.1 (fun (v3 : D108) => (Option.map (fun (v4 : (Bool × Unit)) => v4.1) (F84 v3 a0)))) fun y0 =>
 (some (y0.1, ())))
noncomputable def C83 : Fun := ⟨[(.ro Y108), (.rp Y25)], [(.bool, .z)], fun z => F83 z.1 z.2.1⟩
noncomputable def E83 : Env := ⟨8, tyTab tys, oneTab ones, fnTab [(77, C77), (84, C84)], false, [], [(99999, [3], [])], none, [], []⟩
noncomputable def L83 : List (LoopS (Bool × Unit)) := []
theorem C83_ok : QuietOk Tryz.prog 83 C83 := tQ E83 L83 [] Tryz.func83 ty_ok (.cons C77_ok (.cons C84_ok .nil)) .nil
abbrev G235 : Type := (D84) → (List (List UInt8)) → Option (List (D84) × Unit)
noncomputable def H235 (g : G235) : Fun := ⟨[(.ro Y84), (.ro (.slice .str))], [((.slice Y84), (.own .z))], fun z => g z.1 z.2.1⟩
noncomputable def B235_R16 (g : G235) (e1_0 : List (D84) × Unit → Option (List (D84) × Unit)) (rec : List (List UInt8) × List (D84) × Int × Int × List (D84) × Unit → Option (List (D84) × Unit)) (x11 : List (List UInt8) × List (D84) × Int × Int × List (D84) × Unit) : Option (List (D84) × Unit) :=
 (cond (decide (x11.2.2.2.1 < x11.2.2.1))
 (let j16 : List (List UInt8) × List (D84) × Int × Int × List (D84) × Unit → Option (List (D84) × Unit) := fun (y17 : List (List UInt8) × List (D84) × Int × Int × List (D84) × Unit) =>
 (rec (y17.1, y17.2.1, y17.2.2.1, (IntKind.wrap IntKind.i64 (y17.2.2.2.1 + (1 : Int))), y17.2.2.2.2.1, ()))
 (gd (decide ((0 : Int) ≤ x11.2.2.2.1))
 (Option.bind x11.2.1[(Int.toNat x11.2.2.2.1)]? fun y14 =>
 (cond (y14.1 == (5 : Int))
 (Option.bind (g y14 x11.1) fun y15 =>
 (gd (decide (((List.length x11.2.2.2.2.1) + (List.length y15.1)) ≤ lim))
 (j16 (x11.1, x11.2.1, x11.2.2.1, x11.2.2.2.1, (x11.2.2.2.2.1 ++ y15.1), ()))))
 (j16 (x11.1, x11.2.1, x11.2.2.1, x11.2.2.2.1, x11.2.2.2.2.1, ()))))))
 (e1_0 (x11.2.2.2.2.1, ())))
noncomputable def B235 (g : G235) (a0 : D84) (a1 : List (List UInt8)) : Option (List (D84) × Unit) :=
 (cond ((((List.length a1) : Nat) : Int) == (0 : Int))
 (let j3 : List (D84) × Unit → Option (List (D84) × Unit) := fun (y4 : List (D84) × Unit) =>
 (some (y4.1, ()))
 (cond (a0.1 == (4 : Int))
 (Option.bind (F207 a0) fun y2 =>
 (gd (decide (((List.length ([] ++ [a0])) + (List.length y2.1)) ≤ lim))
 (j3 ((([] ++ [a0]) ++ y2.1), ()))))
 (j3 (([] ++ [a0]), ()))))
 (let j19 : List (D84) × Unit → Option (List (D84) × Unit) := fun (y20 : List (D84) × Unit) =>
 (some (y20.1, ()))
 (cond (a0.1 == (5 : Int))
 (Option.bind a1[(Int.toNat (0 : Int))]? fun y6 =>
 (Option.bind (F159 a0 y6) fun y7 =>
 (cond y7.2.1
 (gd (decide ((((List.length a1) : Nat) : Int) ≤ (((List.length a1) : Nat) : Int)))
 (gd (decide ((1 : Int) ≤ (((Int.toNat (((List.length a1) : Nat) : Int)) : Nat) : Int)))
 (Option.bind (g y7.1 (List.drop (Int.toNat (1 : Int)) (List.take (Int.toNat (((List.length a1) : Nat) : Int)) a1))) fun y8 =>
 (some (y8.1, ())))))
 (j19 ([], ())))))
 (cond (a0.1 == (4 : Int))
 (Option.bind (F207 a0) fun y9 =>
 (iter (B235_R16 g
 (fun y18 =>
 (j19 (y18.1, ())))) fuel (a1, y9.1, (((List.length y9.1) : Nat) : Int), (0 : Int), [], ())))
 (j19 ([], ()))))))
noncomputable def K235 (g : G235) : Fun := ⟨[(.ro Y84), (.ro (.slice .str))], [((.slice Y84), (.own .z))], fun z => B235 g z.1 z.2.1⟩
noncomputable def E235 (g : G235) : Env := ⟨74, tyTab tys, oneTab ones, fnTab [(159, C159), (207, C207), (235, (H235 g))], true, [], [(7, [5], []), (8, [1, 2, 5], []), (16, [1, 5, 58, 59, 60], []), (17, [1, 5, 58, 59, 60], []), (20, [1, 5, 58, 59, 60], []), (21, [5], []), (100000, [5], []), (100001, [5], []), (100002, [1, 5, 58, 59, 60], []), (99999, [4], [])], none, [], []⟩
noncomputable def L235 (g : G235) : List (LoopS (List (D84) × Unit)) := [⟨16, ⟨[(1, (.pv (.slice .str))), (5, (.ref (.slice Y84) 112 [])), (58, (.pv (.slice Y84))), (59, (.pv (.int .i64))), (60, (.pv (.int .i64)))], [(112, (.data false (.slice Y84) (.own .z)))]⟩, fun κ => B235_R16 g (fun y => κ.exit 1 (SSh.mk' ⟨[(5, (.ref (.slice Y84) 112 []))], [(112, (.data false (.slice Y84) (.own .z)))]⟩ y))⟩]
theorem L235_16 (g : G235) : RoundEq (E235 g) (L235 g) ((L235 g)[0]'(Nat.le_of_ble_eq_true rfl)) (nthLoop (codeOf Tryz.f235) 0) := fun κ N x => by kernel_rfl
theorem K235_ok (g : G235) (hg : FreshOk Tryz.prog 235 (H235 g)) : FreshOk Tryz.prog 235 (K235 g) := tF (E235 g) (L235 g) [nthLoop (codeOf Tryz.f235) 0] Tryz.func235 ty_ok (.cons C159_ok (.cons C207_ok (.consFr hg .nil))) (.cons ((L235 g)[0]'(Nat.le_of_ble_eq_true rfl)) (by kernel_rfl) (L235_16 g) .nil)
noncomputable def S235 : Nat → G235
  | 0 => fun _ _ => none
  | k + 1 => B235 (S235 k)
noncomputable def F235 : G235 := S235 fuel
noncomputable def C235 : Fun := H235 F235
theorem C235_all : ∀ k, FreshOk Tryz.prog 235 (H235 (S235 k))
  | 0 => FreshOk.none Tryz.func235 (by rfl) (by decide) fun _ => rfl
  | k + 1 => K235_ok (S235 k) (C235_all k)
theorem C235_ok : FreshOk Tryz.prog 235 C235 := C235_all fuel
noncomputable def F200 (a0 : D84) (a1 : List UInt8) : Option (List (D84) × Unit) :=
 (Option.bind (F230 a1 [(46 : UInt8)]) fun y0 =>
 (Option.bind (F235 a0 y0.1) fun y1 =>
 (some (y1.1, ()))))
noncomputable def C200 : Fun := ⟨[(.ro Y84), (.ro .str)], [((.slice Y84), (.own .z))], fun z => F200 z.1 z.2.1⟩
noncomputable def E200 : Env := ⟨9, tyTab tys, oneTab ones, fnTab [(230, C230), (235, C235)], true, [], [(99999, [4], [])], none, [], []⟩
noncomputable def L200 : List (LoopS (List (D84) × Unit)) := []
theorem C200_ok : FreshOk Tryz.prog 200 C200 := tF E200 L200 [] Tryz.func200 ty_ok (.cons C230_ok (.consFr C235_ok .nil)) .nil
noncomputable def F205_R3 (e0_0 : Int × Unit → Option (Int × Unit)) (er_1 : Int × Unit → Option (Int × Unit)) (rec : Int × List (Int) × Int × Int × Unit → Option (Int × Unit)) (x2 : Int × List (Int) × Int × Int × Unit) : Option (Int × Unit) :=
 (cond (decide (x2.2.2.2.1 < x2.2.2.1))
 (gd (decide ((0 : Int) ≤ x2.2.2.2.1))
 (Option.bind x2.2.1[(Int.toNat x2.2.2.2.1)]? fun y5 =>
 (cond (y5 != x2.1)
 (er_1 (y5, ()))
 (rec (x2.1, x2.2.1, x2.2.2.1, (IntKind.wrap IntKind.i64 (x2.2.2.2.1 + (1 : Int))), ())))))
 (e0_0 (x2.1, ())))
noncomputable def F205 (a0 : List (Int)) : Option (Int × Unit) :=
 (iter (F205_R3
 (fun y6 =>
 (some (y6.1, ())))
 (fun y7 =>
 (some (y7.1, ())))) fuel ((0 : Int), a0, (((List.length a0) : Nat) : Int), (0 : Int), ()))
noncomputable def C205 : Fun := ⟨[(.ro (.slice (.int .i64)))], [((.int .i64), .z)], fun z => F205 z.1⟩
noncomputable def E205 : Env := ⟨18, tyTab tys, oneTab ones, fnTab [], false, [], [(3, [3, 6, 7, 8], []), (4, [3, 6, 7, 8], []), (7, [3, 6, 7, 8], []), (8, [3], []), (100000, [3], []), (100001, [3, 6, 7, 8], []), (99999, [2], [])], none, [], []⟩
noncomputable def L205 : List (LoopS (Int × Unit)) := [⟨3, ⟨[(3, (.pv (.int .i64))), (6, (.pv (.slice (.int .i64)))), (7, (.pv (.int .i64))), (8, (.pv (.int .i64)))], []⟩, fun κ => F205_R3 (fun y => κ.exit 0 (SSh.mk' ⟨[(3, (.pv (.int .i64)))], []⟩ y)) (fun y => κ.ret (SSh.mk' ⟨[(2, (.pv (.int .i64)))], []⟩ y))⟩]
theorem L205_3 : RoundEq E205 L205 L205[0] (nthLoop (codeOf Tryz.f205) 0) := fun κ N x => by kernel_rfl
theorem C205_ok : QuietOk Tryz.prog 205 C205 := tQ E205 L205 [nthLoop (codeOf Tryz.f205) 0] Tryz.func205 ty_ok .nil (.cons L205[0] (by kernel_rfl) L205_3 .nil)
noncomputable def F247 (a0 : Int) : Option (Bool × Unit) :=
 (some ((a0 != a0), ()))
noncomputable def C247 : Fun := ⟨[(.ro (.int .i64))], [(.bool, .z)], fun z => F247 z.1⟩
noncomputable def E247 : Env := ⟨6, tyTab tys, oneTab ones, fnTab [], false, [], [(99999, [2], [])], none, [], []⟩
noncomputable def L247 : List (LoopS (Bool × Unit)) := []
theorem C247_ok : QuietOk Tryz.prog 247 C247 := tQ E247 L247 [] Tryz.func247 ty_ok .nil .nil
noncomputable def F206 (a0 : Int) (a1 : Int) : Option (Int × Unit) :=
 (Option.bind (F247 a0) fun y0 =>
 (Option.bind (F247 a1) fun y1 =>
 (cond y0.1
 (cond y1.1
 (some ((0 : Int), ()))
 (some ((-(1 : Int)), ())))
 (cond y1.1
 (some ((1 : Int), ()))
 (cond (decide (a0 < a1))
 (some ((-(1 : Int)), ()))
 (cond (decide (a0 > a1))
 (some ((1 : Int), ()))
 (some ((0 : Int), ()))))))))
noncomputable def C206 : Fun := ⟨[(.ro (.int .i64)), (.ro (.int .i64))], [((.int .i64), .z)], fun z => F206 z.1 z.2.1⟩
noncomputable def E206 : Env := ⟨20, tyTab tys, oneTab ones, fnTab [(247, C247)], false, [], [(6, [], []), (7, [0, 1, 6], []), (9, [0, 1], []), (11, [0, 1], []), (13, [], []), (99999, [4], [])], none, [], []⟩
noncomputable def L206 : List (LoopS (Int × Unit)) := []
theorem C206_ok : QuietOk Tryz.prog 206 C206 := tQ E206 L206 [] Tryz.func206 ty_ok (.cons C247_ok .nil) .nil
abbrev G166 : Type := (D84) → (D84) → Option (Int × Unit)
noncomputable def H166 (g : G166) : Fun := ⟨[(.ro Y84), (.ro Y84)], [((.int .i64), .z)], fun z => g z.1 z.2.1⟩
noncomputable def B208_R2 (g : G166) (e0_0 : List (D84) × List (D84) × Unit → Option (Int × Unit)) (er_1 : Int × Unit → Option (Int × Unit)) (rec : List (D84) × List (D84) × List (D84) × Int × Int × Unit → Option (Int × Unit)) (x2 : List (D84) × List (D84) × List (D84) × Int × Int × Unit) : Option (Int × Unit) :=
 (cond (decide (x2.2.2.2.2.1 < x2.2.2.2.1))
 (gd (decide ((0 : Int) ≤ x2.2.2.2.2.1))
 (Option.bind x2.2.2.1[(Int.toNat x2.2.2.2.2.1)]? fun y5 =>
 (cond (decide (x2.2.2.2.2.1 ≥ (((List.length x2.2.1) : Nat) : Int)))
 (er_1 ((1 : Int), ()))
 (gd (decide ((0 : Int) ≤ x2.2.2.2.2.1))
 (Option.bind x2.2.1[(Int.toNat x2.2.2.2.2.1)]? fun y7 =>
 (Option.bind (g y5 y7) fun y8 =>
 (cond (y8.1 != (0 : Int))
 (er_1 (y8.1, ()))
 (rec (x2.1, x2.2.1, x2.2.2.1, x2.2.2.2.1, (IntKind.wrap IntKind.i64 (x2.2.2.2.2.1 + (1 : Int))), ())))))))))
 (e0_0 (x2.1, x2.2.1, ())))
noncomputable def B208 (g : G166) (a0 : List (D84)) (a1 : List (D84)) (a2 : (Unit)) : Option (Int × Unit) :=
 (iter (B208_R2 g
 (fun y9 =>
 (cond (decide ((((List.length y9.1) : Nat) : Int) < (((List.length y9.2.1) : Nat) : Int)))
 (some ((-(1 : Int)), ()))
 (some ((0 : Int), ()))))
 (fun y10 =>
 (some (y10.1, ())))) fuel (a0, a1, a0, (((List.length a0) : Nat) : Int), (0 : Int), ()))
noncomputable def K208 (g : G166) : Fun := ⟨[(.ro (.slice Y84)), (.ro (.slice Y84)), (.st 166 [])], [((.int .i64), .z)], fun z => B208 g z.1 z.2.1 z.2.2.1⟩
noncomputable def E208 (g : G166) : Env := ⟨39, tyTab tys, oneTab ones, fnTab [(166, (H166 g))], false, [], [(2, [0, 1, 2, 11, 12, 13], []), (3, [0, 1, 2, 11, 12, 13], []), (6, [0, 1, 2, 7, 8, 11, 12, 13], []), (10, [0, 1, 2, 11, 12, 13], []), (11, [0, 1], []), (13, [], []), (100000, [0, 1], []), (100001, [0, 1, 2, 11, 12, 13], []), (99999, [6], [])], none, [], []⟩
noncomputable def L208 (g : G166) : List (LoopS (Int × Unit)) := [⟨2, ⟨[(0, (.pv (.slice Y84))), (1, (.pv (.slice Y84))), (2, (.clo 166 [])), (11, (.pv (.slice Y84))), (12, (.pv (.int .i64))), (13, (.pv (.int .i64)))], []⟩, fun κ => B208_R2 g (fun y => κ.exit 0 (SSh.mk' ⟨[(0, (.pv (.slice Y84))), (1, (.pv (.slice Y84)))], []⟩ y)) (fun y => κ.ret (SSh.mk' ⟨[(6, (.pv (.int .i64)))], []⟩ y))⟩]
theorem L208_2 (g : G166) : RoundEq (E208 g) (L208 g) ((L208 g)[0]'(Nat.le_of_ble_eq_true rfl)) (nthLoop (codeOf Tryz.f208) 0) := fun κ N x => by kernel_rfl
theorem K208_ok (g : G166) (hg : QuietOk Tryz.prog 166 (H166 g)) : QuietOk Tryz.prog 208 (K208 g) := tQ (E208 g) (L208 g) [nthLoop (codeOf Tryz.f208) 0] Tryz.func208 ty_ok (.cons hg .nil) (.cons ((L208 g)[0]'(Nat.le_of_ble_eq_true rfl)) (by kernel_rfl) (L208_2 g) .nil)
noncomputable def B210 (g : G166) (a0 : D180) (a1 : D180) : Option (Int × Unit) :=
 (Option.bind (F211 a0.1 a1.1) fun y0 =>
 (Option.bind (g a0.2.1 a1.2.1) fun y1 =>
 (Option.bind (F205 [y0.1, y1.1]) fun y2 =>
 (some (y2.1, ())))))
noncomputable def K210 (g : G166) : Fun := ⟨[(.ro Y180), (.ro Y180)], [((.int .i64), .z)], fun z => B210 g z.1 z.2.1⟩
noncomputable def E210 (g : G166) : Env := ⟨17, tyTab tys, oneTab ones, fnTab [(166, (H166 g)), (205, C205), (211, C211)], false, [120], [(99999, [4], [])], none, [], []⟩
noncomputable def L210 (g : G166) : List (LoopS (Int × Unit)) := []
theorem K210_ok (g : G166) (hg : QuietOk Tryz.prog 166 (H166 g)) : QuietOk Tryz.prog 210 (K210 g) := tQ (E210 g) (L210 g) [] Tryz.func210 ty_ok (.cons hg (.cons C205_ok (.cons C211_ok .nil))) .nil
noncomputable def B209_R2 (g : G166) (e0_0 : List (D180) × List (D180) × Unit → Option (Int × Unit)) (er_1 : Int × Unit → Option (Int × Unit)) (rec : List (D180) × List (D180) × List (D180) × Int × Int × Unit → Option (Int × Unit)) (x2 : List (D180) × List (D180) × List (D180) × Int × Int × Unit) : Option (Int × Unit) :=
 (cond (decide (x2.2.2.2.2.1 < x2.2.2.2.1))
 (gd (decide ((0 : Int) ≤ x2.2.2.2.2.1))
 (Option.bind x2.2.2.1[(Int.toNat x2.2.2.2.2.1)]? fun y5 =>
 (cond (decide (x2.2.2.2.2.1 ≥ (((List.length x2.2.1) : Nat) : Int)))
 (er_1 ((1 : Int), ()))
 (gd (decide ((0 : Int) ≤ x2.2.2.2.2.1))
 (Option.bind x2.2.1[(Int.toNat x2.2.2.2.2.1)]? fun y7 =>
 (Option.bind (B210 g y5 y7) fun y8 =>
 (cond (y8.1 != (0 : Int))
 (er_1 (y8.1, ()))
 (rec (x2.1, x2.2.1, x2.2.2.1, x2.2.2.2.1, (IntKind.wrap IntKind.i64 (x2.2.2.2.2.1 + (1 : Int))), ())))))))))
 (e0_0 (x2.1, x2.2.1, ())))
noncomputable def B209 (g : G166) (a0 : List (D180)) (a1 : List (D180)) (a2 : (Unit)) : Option (Int × Unit) :=
 (iter (B209_R2 g
 (fun y9 =>
 (cond (decide ((((List.length y9.1) : Nat) : Int) < (((List.length y9.2.1) : Nat) : Int)))
 (some ((-(1 : Int)), ()))
 (some ((0 : Int), ()))))
 (fun y10 =>
 (some (y10.1, ())))) fuel (a0, a1, a0, (((List.length a0) : Nat) : Int), (0 : Int), ()))
noncomputable def K209 (g : G166) : Fun := ⟨[(.ro (.slice Y180)), (.ro (.slice Y180)), (.st 210 [])], [((.int .i64), .z)], fun z => B209 g z.1 z.2.1 z.2.2.1⟩
noncomputable def E209 (g : G166) : Env := ⟨39, tyTab tys, oneTab ones, fnTab [(210, (K210 g))], false, [], [(2, [0, 1, 2, 11, 12, 13], []), (3, [0, 1, 2, 11, 12, 13], []), (6, [0, 1, 2, 7, 8, 11, 12, 13], []), (10, [0, 1, 2, 11, 12, 13], []), (11, [0, 1], []), (13, [], []), (100000, [0, 1], []), (100001, [0, 1, 2, 11, 12, 13], []), (99999, [6], [])], none, [], []⟩
noncomputable def L209 (g : G166) : List (LoopS (Int × Unit)) := [⟨2, ⟨[(0, (.pv (.slice Y180))), (1, (.pv (.slice Y180))), (2, (.clo 210 [])), (11, (.pv (.slice Y180))), (12, (.pv (.int .i64))), (13, (.pv (.int .i64)))], []⟩, fun κ => B209_R2 g (fun y => κ.exit 0 (SSh.mk' ⟨[(0, (.pv (.slice Y180))), (1, (.pv (.slice Y180)))], []⟩ y)) (fun y => κ.ret (SSh.mk' ⟨[(6, (.pv (.int .i64)))], []⟩ y))⟩]
theorem L209_2 (g : G166) : RoundEq (E209 g) (L209 g) ((L209 g)[0]'(Nat.le_of_ble_eq_true rfl)) (nthLoop (codeOf Tryz.f209) 0) := fun κ N x => by kernel_rfl
theorem K209_ok (g : G166) (hg : QuietOk Tryz.prog 166 (H166 g)) : QuietOk Tryz.prog 209 (K209 g) := tQ (E209 g) (L209 g) [nthLoop (codeOf Tryz.f209) 0] Tryz.func209 ty_ok (.cons (K210_ok g hg) .nil) (.cons ((L209 g)[0]'(Nat.le_of_ble_eq_true rfl)) (by kernel_rfl) (L209_2 g) .nil)
noncomputable def B166 (g : G166) (a0 : D84) (a1 : D84) : Option (Int × Unit) :=
 (Option.bind (F206 a0.1 a1.1) fun y1 =>
 (Option.bind (F206 a0.2.1 a1.2.1) fun y2 =>
 (Option.bind (F205 [y1.1, y2.1]) fun y3 =>
 (cond (y3.1 != (0 : Int))
 (some (y3.1, ()))
 (cond (a0.1 == (4 : Int))
 (Option.bind (F207 a0) fun y5 =>
 (Option.bind (F207 a1) fun y6 =>
 (Option.bind (B208 g y5.1 y6.1 ()) fun y7 =>
 (some (y7.1, ())))))
 (cond (a0.1 == (5 : Int))
 (Option.bind (F169 a0) fun y8 =>
 (Option.bind (F169 a1) fun y9 =>
 (Option.bind (B209 g y8.1 y9.1 ()) fun y10 =>
 (some (y10.1, ())))))
 (Option.bind (F211 a0.2.2.1 a1.2.2.1) fun y11 =>
 (some (y11.1, ())))))))))
noncomputable def K166 (g : G166) : Fun := ⟨[(.ro Y84), (.ro Y84)], [((.int .i64), .z)], fun z => B166 g z.1 z.2.1⟩
noncomputable def E166 (g : G166) : Env := ⟨66, tyTab tys, oneTab ones, fnTab [(166, (H166 g)), (169, C169), (205, C205), (206, C206), (207, C207), (208, (K208 g)), (209, (K209 g)), (210, (K210 g)), (211, C211)], false, [192], [(4, [2, 3], []), (13, [2, 3], []), (100000, [2, 3], []), (99999, [4], [])], none, [], []⟩
noncomputable def L166 (g : G166) : List (LoopS (Int × Unit)) := []
theorem K166_ok (g : G166) (hg : QuietOk Tryz.prog 166 (H166 g)) : QuietOk Tryz.prog 166 (K166 g) := tQ (E166 g) (L166 g) [] Tryz.func166 ty_ok (.cons hg (.cons C169_ok (.cons C205_ok (.cons C206_ok (.cons C207_ok (.cons (K208_ok g hg) (.cons (K209_ok g hg) (.cons (K210_ok g hg) (.cons C211_ok .nil))))))))) .nil
noncomputable def S166 : Nat → G166
  | 0 => fun _ _ => none
  | k + 1 => B166 (S166 k)
noncomputable def F166 : G166 := S166 fuel
noncomputable def C166 : Fun := H166 F166
theorem C166_all : ∀ k, QuietOk Tryz.prog 166 (H166 (S166 k))
  | 0 => QuietOk.none Tryz.func166 (by rfl) (by decide) fun _ => rfl
  | k + 1 => K166_ok (S166 k) (C166_all k)
theorem C166_ok : QuietOk Tryz.prog 166 C166 := C166_all fuel
noncomputable def F258_R2 (e0_0 : Unit → Option (Int × Unit)) (er_1 : Int × Unit → Option (Int × Unit)) (rec : List (D84) × Int × Int × D84 × Unit → Option (Int × Unit)) (x2 : List (D84) × Int × Int × D84 × Unit) : Option (Int × Unit) :=
 (cond (decide (x2.2.2.1 < x2.2.1))
 (gd (decide ((0 : Int) ≤ x2.2.2.1))
 (Option.bind x2.1[(Int.toNat x2.2.2.1)]? fun y5 =>
 (cond ((decide (x2.2.2.2.1.1 = y5.1)) && ((decide (x2.2.2.2.1.2.1 = y5.2.1)) && ((x2.2.2.2.1.2.2.1 == y5.2.2.1) && true)))
 (er_1 (x2.2.2.1, ()))
 (rec (x2.1, x2.2.1, (IntKind.wrap IntKind.i64 (x2.2.2.1 + (1 : Int))), x2.2.2.2.1, ())))))
 (e0_0 (())))
noncomputable def F258 (a0 : List (D84)) (a1 : D84) : Option (Int × Unit) :=
 (iter (F258_R2
 (fun y6 =>
 (some ((-(1 : Int)), ())))
 (fun y7 =>
 (some (y7.1, ())))) fuel (a0, (((List.length a0) : Nat) : Int), (0 : Int), a1, ()))
noncomputable def C258 : Fun := ⟨[(.ro (.slice Y84)), (.ro Y84)], [((.int .i64), .z)], fun z => F258 z.1 z.2.1⟩
noncomputable def E258 : Env := ⟨19, tyTab tys, oneTab ones, fnTab [], false, [], [(2, [0, 3, 7, 8], []), (3, [0, 3, 7, 8], []), (6, [0, 3, 7, 8], []), (7, [], []), (100000, [], []), (100001, [0, 3, 7, 8], []), (99999, [4], [])], none, [], []⟩
noncomputable def L258 : List (LoopS (Int × Unit)) := [⟨2, ⟨[(0, (.pv (.slice Y84))), (3, (.ptr 24 [])), (7, (.pv (.int .i64))), (8, (.pv (.int .i64)))], [(24, (.data true Y84 .z))]⟩, fun κ => F258_R2 (fun y => κ.exit 0 (SSh.mk' ⟨[], []⟩ y)) (fun y => κ.ret (SSh.mk' ⟨[(4, (.pv (.int .i64)))], []⟩ y))⟩]
theorem L258_2 : RoundEq E258 L258 L258[0] (nthLoop (codeOf Tryz.f258) 0) := fun κ N x => by kernel_rfl
theorem C258_ok : QuietOk Tryz.prog 258 C258 := tQ E258 L258 [nthLoop (codeOf Tryz.f258) 0] Tryz.func258 ty_ok .nil (.cons L258[0] (by kernel_rfl) L258_2 .nil)
noncomputable def F236 (a0 : List (D84)) (a1 : D84) : Option (Bool × Unit) :=
 (Option.bind (F258 a0 a1) fun y0 =>
 (some ((decide (y0.1 ≥ (0 : Int))), ())))
noncomputable def C236 : Fun := ⟨[(.ro (.slice Y84)), (.ro Y84)], [(.bool, .z)], fun z => F236 z.1 z.2.1⟩
noncomputable def E236 : Env := ⟨9, tyTab tys, oneTab ones, fnTab [(258, C258)], false, [], [(99999, [4], [])], none, [], []⟩
noncomputable def L236 : List (LoopS (Bool × Unit)) := []
theorem C236_ok : QuietOk Tryz.prog 236 C236 := tQ E236 L236 [] Tryz.func236 ty_ok (.cons C258_ok .nil) .nil
noncomputable def F202 (a0 : D170) (a1 : D84) : Option (Bool × Unit) :=
 (Option.bind (F166 a1 a0.2.2.1) fun y0 =>
 (let j7 : D170 × D84 × Unit → Option (Bool × Unit) := fun (y8 : D170 × D84 × Unit) =>
 (Option.bind (F207 y8.2.1) fun y9 =>
 (cond (y8.2.1.1 == (4 : Int))
 (some (((((List.length y9.1) : Nat) : Int) == y8.1.2.2.1.2.1), ()))
 (some (false, ()))))
 (cond (a0.1 == (1 : Int))
 (cond (a0.1 == (1 : Int))
 (some ((y0.1 == (0 : Int)), ()))
 (cond (a0.1 == (3 : Int))
 (cond (a1.1 == a0.2.2.1.1)
 (some ((decide (y0.1 < (0 : Int))), ()))
 (some (false, ())))
 (cond (a0.1 == (4 : Int))
 (cond (a1.1 == a0.2.2.1.1)
 (some ((decide (y0.1 ≤ (0 : Int))), ()))
 (some (false, ())))
 (cond (a0.1 == (5 : Int))
 (cond (a1.1 == a0.2.2.1.1)
 (some ((decide (y0.1 > (0 : Int))), ()))
 (some (false, ())))
 (cond (a0.1 == (6 : Int))
 (cond (a1.1 == a0.2.2.1.1)
 (some ((decide (y0.1 ≥ (0 : Int))), ()))
 (some (false, ())))
 (cond (a0.1 == (7 : Int))
 (Option.bind (F207 a0.2.2.1) fun y3 =>
 (Option.bind (F236 y3.1 a1) fun y4 =>
 (some (y4.1, ()))))
 (cond (a0.1 == (9 : Int))
 (some ((a1.1 == a0.2.2.1.2.1), ()))
 (j7 (a0, a1, ())))))))))
 (cond (a0.1 == (2 : Int))
 (some ((y0.1 == (0 : Int)), ()))
 (cond (a0.1 == (3 : Int))
 (cond (a1.1 == a0.2.2.1.1)
 (some ((decide (y0.1 < (0 : Int))), ()))
 (some (false, ())))
 (cond (a0.1 == (4 : Int))
 (cond (a1.1 == a0.2.2.1.1)
 (some ((decide (y0.1 ≤ (0 : Int))), ()))
 (some (false, ())))
 (cond (a0.1 == (5 : Int))
 (cond (a1.1 == a0.2.2.1.1)
 (some ((decide (y0.1 > (0 : Int))), ()))
 (some (false, ())))
 (cond (a0.1 == (6 : Int))
 (cond (a1.1 == a0.2.2.1.1)
 (some ((decide (y0.1 ≥ (0 : Int))), ()))
 (some (false, ())))
 (cond (a0.1 == (7 : Int))
 (Option.bind (F207 a0.2.2.1) fun y5 =>
 (Option.bind (F236 y5.1 a1) fun y6 =>
 (some (y6.1, ()))))
 (cond (a0.1 == (9 : Int))
 (some ((a1.1 == a0.2.2.1.2.1), ()))
 (j7 (a0, a1, ()))))))))))))
noncomputable def C202 : Fun := ⟨[(.ro Y170), (.ro Y84)], [(.bool, .z)], fun z => F202 z.1 z.2.1⟩
noncomputable def E202 : Env := ⟨91, tyTab tys, oneTab ones, fnTab [(166, C166), (207, C207), (236, C236)], false, [], [(20, [2, 3], []), (100000, [2, 3], []), (99999, [4], [])], none, [], []⟩
noncomputable def L202 : List (LoopS (Bool × Unit)) := []
theorem C202_ok : QuietOk Tryz.prog 202 C202 := tQ E202 L202 [] Tryz.func202 ty_ok (.cons C166_ok (.cons C207_ok (.cons C236_ok .nil))) .nil
noncomputable def F163 (a0 : D170) (a1 : D84) : Option (Bool × Unit) :=
 (Option.bind (F200 a1 a0.2.1) fun y0 =>
 (cond (a0.1 == (8 : Int))
 (some (((decide ((((List.length y0.1) : Nat) : Int) > (0 : Int))) == (a0.2.2.1.2.1 == (1 : Int))), ()))
 (let j3 : D170 × List (D84) × Unit → Option (Bool × Unit) := fun (y4 : D170 × List (D84) × Unit) =>
 (Option.bind (F201 y4.2.1 (fun (v7 : D84) => (Option.map (fun (v8 : (Bool × Unit)) => v8.1) (F202 y4.1 v7)))) fun y5 =>
 (some ((!(y5.1 == (y4.1.1 == (2 : Int)))), ())))
 (cond ((((List.length y0.1) : Nat) : Int) == (0 : Int))
 (cond (a0.1 != (9 : Int))
 (gd (decide (((List.length y0.1) + (List.length ([((0 : Int), ((0 : Int), ([], ())))] : List D84))) ≤ lim))
 (j3 (a0, (y0.1 ++ [((0 : Int), ((0 : Int), ([], ())))]), ())))
 (j3 (a0, y0.1, ())))
 (j3 (a0, y0.1, ()))))))
noncomputable def C163 : Fun := ⟨[(.ro Y170), (.ro Y84)], [(.bool, .z)], fun z => F163 z.1 z.2.1⟩
noncomputable def E163 : Env := ⟨41, tyTab tys, oneTab ones, fnTab [(200, C200), (201, C201), (202, C202)], false, [], [(4, [2, 5], []), (6, [2, 5], []), (99999, [4], [])], none, [], []⟩
noncomputable def L163 : List (LoopS (Bool × Unit)) := []
theorem C163_ok : QuietOk Tryz.prog 163 C163 := tQ E163 L163 [] Tryz.func163 ty_ok (.consFr C200_ok (.cons C201_ok (.cons C202_ok .nil))) .nil
noncomputable def F162 (a0 : D170) (a1 : D84) : Option (Bool × Unit) :=
 (Option.bind (F163 a0 a1) fun y0 =>
 (some ((!y0.1), ())))
noncomputable def C162 : Fun := ⟨[(.ro Y170), (.rp Y84)], [(.bool, .z)], fun z => F162 z.1 z.2.1⟩
noncomputable def E162 : Env := ⟨8, tyTab tys, oneTab ones, fnTab [(163, C163)], false, [], [(99999, [3], [])], none, [], []⟩
noncomputable def L162 : List (LoopS (Bool × Unit)) := []
theorem C162_ok : QuietOk Tryz.prog 162 C162 := tQ E162 L162 [] Tryz.func162 ty_ok (.cons C163_ok .nil) .nil
noncomputable def F161 (a0 : D157) (a1 : D84) : Option (Bool × Unit) :=
 (Option.bind (F149 a0.1 (fun (v3 : D170) => (Option.map (fun (v4 : (Bool × Unit)) => v4.1) (F162 v3 a1)))) fun y0 =>
 (some ((!y0.1), ())))
noncomputable def C161 : Fun := ⟨[(.ro Y157), (.rp Y84)], [(.bool, .z)], fun z => F161 z.1 z.2.1⟩
noncomputable def E161 : Env := ⟨9, tyTab tys, oneTab ones, fnTab [(149, C149), (162, C162)], false, [], [(99999, [3], [])], none, [], []⟩
noncomputable def L161 : List (LoopS (Bool × Unit)) := []
theorem C161_ok : QuietOk Tryz.prog 161 C161 := tQ E161 L161 [] Tryz.func161 ty_ok (.cons C149_ok (.cons C162_ok .nil)) .nil
noncomputable def F113 (a0 : D44) (a1 : D84) : Option (Bool × Unit) :=
 (Option.bind (F147 a0.1 (fun (v3 : D157) => (Option.map (fun (v4 : (Bool × Unit)) => v4.1) (F161 v3 a1)))) fun y0 =>
 (some (y0.1, ())))
noncomputable def C113 : Fun := ⟨[(.ro Y44), (.ro Y84)], [(.bool, .z)], fun z => F113 z.1 z.2.1⟩
noncomputable def E113 : Env := ⟨9, tyTab tys, oneTab ones, fnTab [(147, C147), (161, C161)], false, [], [(99999, [4], [])], none, [], []⟩
noncomputable def L113 : List (LoopS (Bool × Unit)) := []
theorem C113_ok : QuietOk Tryz.prog 113 C113 := tQ E113 L113 [] Tryz.func113 ty_ok (.cons C147_ok (.cons C161_ok .nil)) .nil
noncomputable def F132 (a0 : D103) (a1 : D108) : Option (Bool × Unit) :=
 (cond (!(a0.1 == a1.1.1))
 (some (false, ()))
 (cond a1.2.2.1
 (Option.bind (F113 a0.2.1 a1.2.1) fun y1 =>
 (cond y1.1
 (some (true, ()))
 (cond (!a1.1.2.2.1)
 (Option.bind (F113 a0.2.1 a1.1.2.2.2.1) fun y2 =>
 (some (y2.1, ())))
 (some (false, ())))))
 (cond (!a1.1.2.2.1)
 (Option.bind (F113 a0.2.1 a1.1.2.2.2.1) fun y3 =>
 (some (y3.1, ())))
 (some (false, ())))))
noncomputable def C132 : Fun := ⟨[(.ro Y103), (.ro Y108)], [(.bool, .z)], fun z => F132 z.1 z.2.1⟩
noncomputable def E132 : Env := ⟨34, tyTab tys, oneTab ones, fnTab [(113, C113)], false, [], [(3, [2, 3], []), (99999, [4], [])], none, [], []⟩
noncomputable def L132 : List (LoopS (Bool × Unit)) := []
theorem C132_ok : QuietOk Tryz.prog 132 C132 := tQ E132 L132 [] Tryz.func132 ty_ok (.cons C113_ok .nil) .nil
noncomputable def F131 (a0 : D103) (a1 : List (D108)) : Option (Bool × Unit) :=
 (Option.bind (F77 a1 (fun (v3 : D108) => (Option.map (fun (v4 : (Bool × Unit)) => v4.1) (F132 a0 v3)))) fun y0 =>
 (some (y0.1, ())))
noncomputable def C131 : Fun := ⟨[(.ro Y103), (.rp (.slice Y108))], [(.bool, .z)], fun z => F131 z.1 z.2.1⟩
noncomputable def E131 : Env := ⟨8, tyTab tys, oneTab ones, fnTab [(77, C77), (132, C132)], false, [], [(99999, [3], [])], none, [], []⟩
noncomputable def L131 : List (LoopS (Bool × Unit)) := []
theorem C131_ok : QuietOk Tryz.prog 131 C131 := tQ E131 L131 [] Tryz.func131 ty_ok (.cons C77_ok (.cons C132_ok .nil)) .nil
noncomputable def F86 (a0 : List (D103)) (a1 : List (D108)) : Option (Bool × Unit) :=
 (Option.bind (F124 a0 (fun (v3 : D103) => (Option.map (fun (v4 : (Bool × Unit)) => v4.1) (F131 v3 a1)))) fun y0 =>
 (some (y0.1, ())))
noncomputable def C86 : Fun := ⟨[(.ro (.slice Y103)), (.ro (.slice Y108))], [(.bool, .z)], fun z => F86 z.1 z.2.1⟩
noncomputable def E86 : Env := ⟨8, tyTab tys, oneTab ones, fnTab [(124, C124), (131, C131)], false, [], [(99999, [4], [])], none, [], []⟩
noncomputable def L86 : List (LoopS (Bool × Unit)) := []
theorem C86_ok : QuietOk Tryz.prog 86 C86 := tQ E86 L86 [] Tryz.func86 ty_ok (.cons C124_ok (.cons C131_ok .nil)) .nil
noncomputable def F37_R2 (e0_0 : List (D25) × D25 × Unit → Option (List (D25) × Int × Unit)) (er_1 : Int × Unit → Option (List (D25) × Int × Unit)) (rec : List (D25) × List (D25) × Int × Int × D25 × Unit → Option (List (D25) × Int × Unit)) (x2 : List (D25) × List (D25) × Int × Int × D25 × Unit) : Option (List (D25) × Int × Unit) :=
 (cond (decide (x2.2.2.2.1 < x2.2.2.1))
 (let j7 : List (D25) × List (D25) × Int × Int × D25 × Unit → Option (List (D25) × Int × Unit) := fun (y8 : List (D25) × List (D25) × Int × Int × D25 × Unit) =>
 (rec (y8.1, y8.2.1, y8.2.2.1, (IntKind.wrap IntKind.i64 (y8.2.2.2.1 + (1 : Int))), y8.2.2.2.2.1, ()))
 (gd (decide ((0 : Int) ≤ x2.2.2.2.1))
 (Option.bind x2.2.1[(Int.toNat x2.2.2.2.1)]? fun y5 =>
 (cond (decide (y5.2.1 > x2.2.2.2.2.1.1))
 (Option.bind (F77 y5.2.2.2.1 (fun (v10 : D108) => (Option.map (fun (v11 : (Bool × Unit)) => v11.1) (F83 v10 x2.2.2.2.2.1)))) fun y6 =>
 (cond y6.1
 (er_1 ((15 : Int), ()))
 (j7 (x2.1, x2.2.1, x2.2.2.1, x2.2.2.2.1, x2.2.2.2.2.1, ()))))
 (j7 (x2.1, x2.2.1, x2.2.2.1, x2.2.2.2.1, x2.2.2.2.2.1, ()))))))
 (e0_0 (x2.1, x2.2.2.2.2.1, ())))
noncomputable def F37_R11 (e2_0 : D25 × List (D25) × Unit → Option (List (D25) × Int × Unit)) (er_1 : Int × Unit → Option (List (D25) × Int × Unit)) (rec : Int × Int × D25 × List (D25) × Unit → Option (List (D25) × Int × Unit)) (x15 : Int × Int × D25 × List (D25) × Unit) : Option (List (D25) × Int × Unit) :=
 (cond (decide (x15.2.1 < x15.1))
 (let j36 : Int × Int × D25 × List (D25) × Unit → Option (List (D25) × Int × Unit) := fun (y37 : Int × Int × D25 × List (D25) × Unit) =>
 (rec (y37.1, (IntKind.wrap IntKind.i64 (y37.2.1 + (1 : Int))), y37.2.2.1, y37.2.2.2.1, ()))
 (gd (decide ((0 : Int) ≤ x15.2.1))
 (gd (decide (x15.2.1 < (((List.length x15.2.2.2.1) : Nat) : Int)))
 (Option.bind x15.2.2.2.1[(Int.toNat x15.2.1)]? fun y19 =>
 (cond (decide (y19.2.1 ≤ x15.2.2.1.1))
 (j36 (x15.1, x15.2.1, x15.2.2.1, x15.2.2.2.1, ()))
 (let j25 : Nat × Int × Int × D25 × List (D25) × Unit → Option (List (D25) × Int × Unit) := fun (y26 : Nat × Int × Int × D25 × List (D25) × Unit) =>
 (let j32 : Nat × Int × Int × D25 × List (D25) × Unit → Option (List (D25) × Int × Unit) := fun (y33 : Nat × Int × Int × D25 × List (D25) × Unit) =>
 (Option.bind y33.2.2.2.2.1[y33.1]? fun y34 =>
 (cond y34.2.2.2.2.1
 (Option.bind y33.2.2.2.2.1[y33.1]? fun y35 =>
 (cond y35.2.2.2.2.2.1
 (er_1 ((16 : Int), ()))
 (j36 (y33.2.1, y33.2.2.1, y33.2.2.2.1, y33.2.2.2.2.1, ()))))
 (j36 (y33.2.1, y33.2.2.1, y33.2.2.2.1, y33.2.2.2.2.1, ()))))
 (Option.bind y26.2.2.2.2.1[y26.1]? fun y28 =>
 (Option.bind y26.2.2.2.2.1[y26.1]? fun y29 =>
 (Option.bind (F86 y29.2.2.1 y26.2.2.2.1.2.2.2.1) fun y30 =>
 (cond y30.1
 (Option.bind y26.2.2.2.2.1[y26.1]? fun y31 =>
 (j32 (y26.1, y26.2.1, y26.2.2.1, (y26.2.2.2.1.1, (y26.2.2.2.1.2.1, (y26.2.2.2.1.2.2.1, (y26.2.2.2.1.2.2.2.1, (true, y26.2.2.2.1.2.2.2.2.2))))), (List.set y26.2.2.2.2.1 y26.1 (y31.1, (y31.2.1, (y31.2.2.1, (y31.2.2.2.1, (y31.2.2.2.2.1, (true, y31.2.2.2.2.2.2))))))), ())))
 (j32 (y26.1, y26.2.1, y26.2.2.1, y26.2.2.2.1, y26.2.2.2.2.1, ())))))))
 (Option.bind x15.2.2.2.1[(Int.toNat x15.2.1)]? fun y21 =>
 (Option.bind x15.2.2.2.1[(Int.toNat x15.2.1)]? fun y22 =>
 (Option.bind (F86 x15.2.2.1.2.2.1 y22.2.2.2.1) fun y23 =>
 (cond y23.1
 (Option.bind x15.2.2.2.1[(Int.toNat x15.2.1)]? fun y24 =>
 (j25 ((Int.toNat x15.2.1), x15.1, x15.2.1, (x15.2.2.1.1, (x15.2.2.1.2.1, (x15.2.2.1.2.2.1, (x15.2.2.1.2.2.2.1, (x15.2.2.1.2.2.2.2.1, (true, x15.2.2.1.2.2.2.2.2.2)))))), (List.set x15.2.2.2.1 (Int.toNat x15.2.1) (y24.1, (y24.2.1, (y24.2.2.1, (y24.2.2.2.1, (true, y24.2.2.2.2.2)))))), ())))
 (j25 ((Int.toNat x15.2.1), x15.1, x15.2.1, x15.2.2.1, x15.2.2.2.1, ()))))))))))))
 (e2_0 (x15.2.2.1, x15.2.2.2.1, ())))
noncomputable def F37 (a0 : List (D25)) (a1 : D25) : Option (List (D25) × Int × Unit) :=
 (iter (F37_R2
 (fun y9 =>
 (Option.bind (F38 y9.1) fun y11 =>
 (Option.bind (F85 y9.2.1) fun y12 =>
 (iter (F37_R11
 (fun y38 =>
 (let j41 : D25 × List (D25) × Unit → Option (List (D25) × Int × Unit) := fun (y42 : D25 × List (D25) × Unit) =>
 (gd (decide (((List.length y42.2.1) + (List.length [y42.1])) ≤ lim))
 (some ((y42.2.1 ++ [y42.1]), ((0 : Int), ()))))
 (cond y38.1.2.2.2.2.1
 (cond y38.1.2.2.2.2.2.1
 (some ([], ((16 : Int), ())))
 (cond ((((List.length y38.2.1) : Nat) : Int) == (30 : Int))
 (some ([], ((7 : Int), ())))
 (j41 (y38.1, y38.2.1, ()))))
 (cond ((((List.length y38.2.1) : Nat) : Int) == (30 : Int))
 (some ([], ((7 : Int), ())))
 (j41 (y38.1, y38.2.1, ()))))))
 (fun y39 =>
 (some ([], (y39.1, ()))))) fuel ((((List.length y11.1) : Nat) : Int), (0 : Int), (y12.1.1, (y12.1.2.1, (y12.1.2.2.1, (y12.1.2.2.2.1, (false, (false, y12.1.2.2.2.2.2.2)))))), y11.1, ())))))
 (fun y10 =>
 (some ([], (y10.1, ()))))) fuel (a0, a0, (((List.length a0) : Nat) : Int), (0 : Int), a1, ()))
noncomputable def C37 : Fun := ⟨[(.ro (.slice Y25)), (.ro Y25)], [((.slice Y25), (.own (.pr .z (.pr .z (.pr (.own (.pr .z (.pr (.pr (.own (.pr (.own .z) .z)) .z) .z))) (.pr (.own .z) .z)))))), ((.int .i64), .z)], fun z => F37 z.1 z.2.1⟩
noncomputable def E37 : Env := ⟨98, tyTab tys, oneTab ones, fnTab [(38, C38), (77, C77), (83, C83), (85, C85), (86, C86)], true, [], [(2, [0, 3, 11, 12, 13], []), (3, [0, 3, 11, 12, 13], []), (6, [0, 3, 11, 12, 13], []), (7, [0, 3], []), (11, [3, 8, 36, 37], []), (12, [3, 8, 36, 37], []), (15, [3, 8, 10, 36, 37], []), (17, [3, 8, 10, 36, 37], []), (19, [3, 8, 10, 36, 37], []), (21, [3, 8, 36, 37], []), (22, [3, 8], []), (26, [3, 8], []), (100000, [0, 3], []), (100001, [0, 3, 11, 12, 13], []), (100002, [3, 8], []), (100003, [3, 8, 36, 37], []), (100004, [3, 8], []), (99999, [4, 5], [])], none, [], []⟩
noncomputable def L37 : List (LoopS (List (D25) × Int × Unit)) := [⟨2, ⟨[(0, (.pv (.slice Y25))), (3, (.ptr 24 [])), (11, (.pv (.slice Y25))), (12, (.pv (.int .i64))), (13, (.pv (.int .i64)))], [(24, (.data true Y25 .z))]⟩, fun κ => F37_R2 (fun y => κ.exit 0 (SSh.mk' ⟨[(0, (.pv (.slice Y25))), (3, (.ptr 24 []))], [(24, (.data true Y25 .z))]⟩ y)) (fun y => κ.ret (SSh.mk' ⟨[(4, .nilS), (5, (.pv (.int .i64)))], []⟩ y))⟩,
  ⟨11, ⟨[(3, (.ptr 24 [])), (8, (.ref (.slice Y25) 240 [])), (36, (.pv (.int .i64))), (37, (.pv (.int .i64)))], [(24, (.data true Y25 (.pr .z (.pr .z (.pr (.own (.pr .z (.pr (.pr (.own (.pr (.own .z) .z)) .z) .z))) (.pr (.own .z) .z)))))), (240, (.data false (.slice Y25) (.own (.pr .z (.pr .z (.pr (.own (.pr .z (.pr (.pr (.own (.pr (.own .z) .z)) .z) .z))) (.pr (.own .z) .z)))))))]⟩, fun κ => F37_R11 (fun y => κ.exit 2 (SSh.mk' ⟨[(3, (.ptr 24 [])), (8, (.ref (.slice Y25) 240 []))], [(24, (.data true Y25 (.pr .z (.pr .z (.pr (.own (.pr .z (.pr (.pr (.own (.pr (.own .z) .z)) .z) .z))) (.pr (.own .z) .z)))))), (240, (.data false (.slice Y25) (.own (.pr .z (.pr .z (.pr (.own (.pr .z (.pr (.pr (.own (.pr (.own .z) .z)) .z) .z))) (.pr (.own .z) .z)))))))]⟩ y)) (fun y => κ.ret (SSh.mk' ⟨[(4, .nilS), (5, (.pv (.int .i64)))], []⟩ y))⟩]
theorem L37_11 : RoundEq E37 L37 L37[1] (nthLoop (codeOf Tryz.f37) 1) := fun κ N x => by kernel_rfl
theorem L37_2 : RoundEq E37 L37 L37[0] (nthLoop (codeOf Tryz.f37) 0) := fun κ N x => by kernel_rfl
theorem C37_ok : FreshOk Tryz.prog 37 C37 := tF E37 L37 [nthLoop (codeOf Tryz.f37) 0, nthLoop (codeOf Tryz.f37) 1] Tryz.func37 ty_ok (.consFr C38_ok (.cons C77_ok (.cons C83_ok (.consFr C85_ok (.cons C86_ok .nil))))) (.cons L37[0] (by kernel_rfl) L37_2 (.cons L37[1] (by kernel_rfl) L37_11 .nil))
noncomputable def F39 (a0 : List (D25)) : Option (List (D25) × Unit) :=
 (let j1 : List (D25) × Unit → Option (List (D25) × Unit) := fun (y2 : List (D25) × Unit) =>
 (gd (decide (((List.length ([] : List D25)) + (List.length y2.1)) ≤ lim))
 (some (([] ++ y2.1), ())))
 (cond (List.isEmpty a0)
 (both
 (some ([], ()))
 (j1 (a0, ())))
 (j1 (a0, ()))))
noncomputable def C39 : Fun := ⟨[(.tk (.slice Y25) (.own (.pr .z (.pr .z (.pr (.own (.pr .z (.pr (.pr (.own (.pr (.own .z) .z)) .z) .z))) (.pr (.own .z) .z))))))], [((.slice Y25), (.own (.pr .z (.pr .z (.pr (.own (.pr .z (.pr (.pr (.own (.pr (.own .z) .z)) .z) .z))) (.pr (.own .z) .z))))))], fun z => F39 z.1⟩
noncomputable def E39 : Env := ⟨8, tyTab tys, oneTab ones, fnTab [], true, [], [(3, [0], []), (99999, [2], [])], none, [], []⟩
noncomputable def L39 : List (LoopS (List (D25) × Unit)) := []
theorem C39_ok : IoOk Tryz.prog 39 C39 := tT E39 L39 [] Tryz.func39 ty_ok .nil .nil
noncomputable def F10 (a0 : List (D25)) (a1 : D25) : Option (List (D25) × Int × Unit) :=
 (let j4 : List (D25) × D25 × Unit → Option (List (D25) × Int × Unit) := fun (y5 : List (D25) × D25 × Unit) =>
 (Option.bind (F37 y5.1 y5.2.1) fun y6 =>
 (cond (y6.2.1 != (0 : Int))
 (Option.bind (F38 y5.1) fun y8 =>
 (some (y8.1, (y6.2.1, ()))))
 (Option.bind (F39 y6.1) fun y9 =>
 (some (y9.1, ((0 : Int), ()))))))
 (cond (decide ((((List.length a0) : Nat) : Int) > (4096 : Int)))
 (some ([], ((2 : Int), ())))
 (Option.bind (F35 a0) fun y1 =>
 (cond (!y1.1)
 (some ([], ((1 : Int), ())))
 (Option.bind (F36 a1) fun y2 =>
 (cond (!y2.1)
 (some ([], ((1 : Int), ())))
 (cond (decide ((((List.length a0) : Nat) : Int) > (0 : Int)))
 (gd (decide ((0 : Int) ≤ (IntKind.wrap IntKind.i64 ((((List.length a0) : Nat) : Int) - (1 : Int)))))
 (Option.bind a0[(Int.toNat (IntKind.wrap IntKind.i64 ((((List.length a0) : Nat) : Int) - (1 : Int))))]? fun y3 =>
 (cond (decide (a1.2.1 ≤ y3.2.1))
 (some ([], ((19 : Int), ())))
 (j4 (a0, a1, ())))))
 (j4 (a0, a1, ())))))))))
noncomputable def C10 : Fun := ⟨[(.ro (.slice Y25)), (.ro Y25)], [((.slice Y25), (.own (.pr .z (.pr .z (.pr (.own (.pr .z (.pr (.pr (.own (.pr (.own .z) .z)) .z) .z))) (.pr (.own .z) .z)))))), ((.int .i64), .z)], fun z => F10 z.1 z.2.1⟩
noncomputable def E10 : Env := ⟨50, tyTab tys, oneTab ones, fnTab [(35, C35), (36, C36), (37, C37), (38, C38), (39, C39)], true, [], [(7, [0, 3], []), (10, [6], []), (100000, [0, 3], []), (99999, [4, 5], [])], none, [], []⟩
noncomputable def L10 : List (LoopS (List (D25) × Int × Unit)) := []
theorem C10_ok : FreshOk Tryz.prog 10 C10 := tF E10 L10 [] Tryz.func10 ty_ok (.cons C35_ok (.cons C36_ok (.consFr C37_ok (.consFr C38_ok (.consIo C39_ok .nil))))) .nil
noncomputable def F60 (a0 : D84) (a1 : D84) : Option (Bool × Unit) :=
 (cond (a0.1 != a1.1)
 (some (false, ()))
 (cond (a0.2.1 != a1.2.1)
 (some (false, ()))
 (cond (!(a0.2.2.1 == a1.2.2.1))
 (some (false, ()))
 (some (true, ())))))
noncomputable def C60 : Fun := ⟨[(.ro Y84), (.ro Y84)], [(.bool, .z)], fun z => F60 z.1 z.2.1⟩
noncomputable def E60 : Env := ⟨20, tyTab tys, oneTab ones, fnTab [], false, [], [(3, [2, 3], []), (5, [2, 3], []), (7, [], []), (99999, [4], [])], none, [], []⟩
noncomputable def L60 : List (LoopS (Bool × Unit)) := []
theorem C60_ok : QuietOk Tryz.prog 60 C60 := tQ E60 L60 [] Tryz.func60 ty_ok .nil .nil
noncomputable def F252 (a0 : D170) (a1 : D170) : Option (Bool × Unit) :=
 (cond (a0.1 != a1.1)
 (some (false, ()))
 (cond (!(a0.2.1 == a1.2.1))
 (some (false, ()))
 (Option.bind (F60 a0.2.2.1 a1.2.2.1) fun y3 =>
 (cond (!y3.1)
 (some (false, ()))
 (some (true, ()))))))
noncomputable def C252 : Fun := ⟨[(.ro Y170), (.ro Y170)], [(.bool, .z)], fun z => F252 z.1 z.2.1⟩
noncomputable def E252 : Env := ⟨21, tyTab tys, oneTab ones, fnTab [(60, C60)], false, [], [(3, [2, 3], []), (5, [2, 3], []), (7, [], []), (99999, [4], [])], none, [], []⟩
noncomputable def L252 : List (LoopS (Bool × Unit)) := []
theorem C252_ok : QuietOk Tryz.prog 252 C252 := tQ E252 L252 [] Tryz.func252 ty_ok (.cons C60_ok .nil) .nil
noncomputable def F219_R4 (e0_0 : Unit → Option (Bool × Unit)) (er_1 : Bool × Unit → Option (Bool × Unit)) (rec : List (D170) × List (D170) × Int × Unit → Option (Bool × Unit)) (x3 : List (D170) × List (D170) × Int × Unit) : Option (Bool × Unit) :=
 (cond (decide (x3.2.2.1 < (((List.length x3.1) : Nat) : Int)))
 (gd (decide ((0 : Int) ≤ x3.2.2.1))
 (Option.bind x3.1[(Int.toNat x3.2.2.1)]? fun y6 =>
 (gd (decide ((0 : Int) ≤ x3.2.2.1))
 (Option.bind x3.2.1[(Int.toNat x3.2.2.1)]? fun y7 =>
 (Option.bind (F252 y6 y7) fun y8 =>
 (cond (!y8.1)
 (er_1 (false, ()))
 (rec (x3.1, x3.2.1, (IntKind.wrap IntKind.i64 (x3.2.2.1 + (1 : Int))), ()))))))))
 (e0_0 (())))
noncomputable def F219 (a0 : List (D170)) (a1 : List (D170)) : Option (Bool × Unit) :=
 (cond ((((List.length a0) : Nat) : Int) != (((List.length a1) : Nat) : Int))
 (some (false, ()))
 (iter (F219_R4
 (fun y9 =>
 (some (true, ())))
 (fun y10 =>
 (some (y10.1, ())))) fuel (a0, a1, (0 : Int), ())))
noncomputable def C219 : Fun := ⟨[(.ro (.slice Y170)), (.ro (.slice Y170))], [(.bool, .z)], fun z => F219 z.1 z.2.1⟩
noncomputable def E219 : Env := ⟨27, tyTab tys, oneTab ones, fnTab [(252, C252)], false, [], [(3, [0, 1], []), (4, [0, 1, 5], []), (5, [0, 1, 5], []), (6, [0, 1, 5], []), (8, [], []), (100000, [], []), (100001, [0, 1, 5], []), (99999, [4], [])], none, [], []⟩
noncomputable def L219 : List (LoopS (Bool × Unit)) := [⟨4, ⟨[(0, (.pv (.slice Y170))), (1, (.pv (.slice Y170))), (5, (.pv (.int .i64)))], []⟩, fun κ => F219_R4 (fun y => κ.exit 0 (SSh.mk' ⟨[], []⟩ y)) (fun y => κ.ret (SSh.mk' ⟨[(4, (.pv .bool))], []⟩ y))⟩]
theorem L219_4 : RoundEq E219 L219 L219[0] (nthLoop (codeOf Tryz.f219) 0) := fun κ N x => by kernel_rfl
theorem C219_ok : QuietOk Tryz.prog 219 C219 := tQ E219 L219 [nthLoop (codeOf Tryz.f219) 0] Tryz.func219 ty_ok (.cons C252_ok .nil) (.cons L219[0] (by kernel_rfl) L219_4 .nil)
noncomputable def F174 (a0 : D157) (a1 : D157) : Option (Bool × Unit) :=
 (Option.bind (F219 a0.1 a1.1) fun y1 =>
 (cond (!y1.1)
 (some (false, ()))
 (some (true, ()))))
noncomputable def C174 : Fun := ⟨[(.ro Y157), (.ro Y157)], [(.bool, .z)], fun z => F174 z.1 z.2.1⟩
noncomputable def E174 : Env := ⟨11, tyTab tys, oneTab ones, fnTab [(219, C219)], false, [], [(3, [], []), (99999, [4], [])], none, [], []⟩
noncomputable def L174 : List (LoopS (Bool × Unit)) := []
theorem C174_ok : QuietOk Tryz.prog 174 C174 := tQ E174 L174 [] Tryz.func174 ty_ok (.cons C219_ok .nil) .nil
noncomputable def F116_R4 (e0_0 : Unit → Option (Bool × Unit)) (er_1 : Bool × Unit → Option (Bool × Unit)) (rec : List (D157) × List (D157) × Int × Unit → Option (Bool × Unit)) (x3 : List (D157) × List (D157) × Int × Unit) : Option (Bool × Unit) :=
 (cond (decide (x3.2.2.1 < (((List.length x3.1) : Nat) : Int)))
 (gd (decide ((0 : Int) ≤ x3.2.2.1))
 (Option.bind x3.1[(Int.toNat x3.2.2.1)]? fun y6 =>
 (gd (decide ((0 : Int) ≤ x3.2.2.1))
 (Option.bind x3.2.1[(Int.toNat x3.2.2.1)]? fun y7 =>
 (Option.bind (F174 y6 y7) fun y8 =>
 (cond (!y8.1)
 (er_1 (false, ()))
 (rec (x3.1, x3.2.1, (IntKind.wrap IntKind.i64 (x3.2.2.1 + (1 : Int))), ()))))))))
 (e0_0 (())))
noncomputable def F116 (a0 : List (D157)) (a1 : List (D157)) : Option (Bool × Unit) :=
 (cond ((((List.length a0) : Nat) : Int) != (((List.length a1) : Nat) : Int))
 (some (false, ()))
 (iter (F116_R4
 (fun y9 =>
 (some (true, ())))
 (fun y10 =>
 (some (y10.1, ())))) fuel (a0, a1, (0 : Int), ())))
noncomputable def C116 : Fun := ⟨[(.ro (.slice Y157)), (.ro (.slice Y157))], [(.bool, .z)], fun z => F116 z.1 z.2.1⟩
noncomputable def E116 : Env := ⟨27, tyTab tys, oneTab ones, fnTab [(174, C174)], false, [], [(3, [0, 1], []), (4, [0, 1, 5], []), (5, [0, 1, 5], []), (6, [0, 1, 5], []), (8, [], []), (100000, [], []), (100001, [0, 1, 5], []), (99999, [4], [])], none, [], []⟩
noncomputable def L116 : List (LoopS (Bool × Unit)) := [⟨4, ⟨[(0, (.pv (.slice Y157))), (1, (.pv (.slice Y157))), (5, (.pv (.int .i64)))], []⟩, fun κ => F116_R4 (fun y => κ.exit 0 (SSh.mk' ⟨[], []⟩ y)) (fun y => κ.ret (SSh.mk' ⟨[(4, (.pv .bool))], []⟩ y))⟩]
theorem L116_4 : RoundEq E116 L116 L116[0] (nthLoop (codeOf Tryz.f116) 0) := fun κ N x => by kernel_rfl
theorem C116_ok : QuietOk Tryz.prog 116 C116 := tQ E116 L116 [nthLoop (codeOf Tryz.f116) 0] Tryz.func116 ty_ok (.cons C174_ok .nil) (.cons L116[0] (by kernel_rfl) L116_4 .nil)
end Go.V
