/- What functions of the program compute, printed by a program of ours. No condition. -/
import Derived.Test.YtafhmggfbojpdaaGreatDoorWF1
namespace Go.V
open Go.Proofs
set_option maxRecDepth 100000
set_option linter.unusedVariables false
noncomputable def F83_R3 (e0_0 : List (D139) × Unit → Option (List (D139) × Unit)) (rec : List (D139) × Int × List (D139) × Unit → Option (List (D139) × Unit)) (x2 : List (D139) × Int × List (D139) × Unit) : Option (List (D139) × Unit) :=
 (cond (decide (x2.2.1 < (((List.length x2.1) : Nat) : Int)))
 (gd (decide ((0 : Int) ≤ x2.2.1))
 (Option.bind x2.1[(Int.toNat x2.2.1)]? fun y4 =>
 (Option.bind (F114 y4) fun y5 =>
 (gd (decide ((0 : Int) ≤ x2.2.1))
 (gd (decide (x2.2.1 < (((List.length x2.2.2.1) : Nat) : Int)))
 (Option.bind x2.2.2.1[(Int.toNat x2.2.1)]? fun y6 =>
 (rec (x2.1, (IntKind.wrap IntKind.i64 (x2.2.1 + (1 : Int))), (List.set x2.2.2.1 (Int.toNat x2.2.1) y5.1), ()))))))))
 (e0_0 (x2.2.2.1, ())))
noncomputable def F83 (a0 : List (D139)) : Option (List (D139) × Unit) :=
 (gd (decide ((((List.length a0) : Nat) : Int) ≤ ((4294967296 : Nat) : Int)))
 (gd (decide ((((List.length a0) : Nat) : Int) ≤ (((Int.toNat (((List.length a0) : Nat) : Int)) : Nat) : Int)))
 (iter (F83_R3
 (fun y7 =>
 (some (y7.1, ())))) fuel (a0, (0 : Int), (List.replicate (Int.toNat (((List.length a0) : Nat) : Int)) ([], (([], ()), ()))), ()))))
noncomputable def C83 : Fun := ⟨[(.ro (.slice Y139))], [((.slice Y139), (.own (.pr .z (.pr (.pr (.own (.pr (.own .z) .z)) .z) .z))))], fun z => F83 z.1⟩
noncomputable def E83 : Env := ⟨23, tyTab tys, oneTab ones, fnTab [(114, C114)], true, [], [(3, [0, 3, 4], []), (5, [0, 3, 4], []), (6, [3], []), (100000, [3], []), (100001, [0, 3, 4], []), (99999, [2], [])], none, [], []⟩
noncomputable def L83 : List (LoopS (List (D139) × Unit)) := [⟨3, ⟨[(0, (.pv (.slice Y139))), (3, (.ref (.slice Y139) 56 [])), (4, (.pv (.int .i64)))], [(56, (.data false (.slice Y139) (.own (.pr .z (.pr (.pr (.own (.pr (.own .z) .z)) .z) .z)))))]⟩, fun κ => F83_R3 (fun y => κ.exit 0 (SSh.mk' ⟨[(3, (.ref (.slice Y139) 56 []))], [(56, (.data false (.slice Y139) (.own (.pr .z (.pr (.pr (.own (.pr (.own .z) .z)) .z) .z)))))]⟩ y))⟩]
theorem L83_3 : RoundEq E83 L83 L83[0] (nthLoop (codeOf Tryz.f83) 0) := fun κ N x => by kernel_rfl
theorem C83_ok : FreshOk Tryz.prog 83 C83 := tF E83 L83 [nthLoop (codeOf Tryz.f83) 0] Tryz.func83 ty_ok (.consFr C114_ok .nil) (.cons L83[0] (by kernel_rfl) L83_3 .nil)
noncomputable def F115 (a0 : D101) : Option (D101 × Unit) :=
 (Option.bind (F150 a0.2.2.2.1) fun y0 =>
 (some ((a0.1, (a0.2.1, (a0.2.2.1, (y0.1, ())))), ())))
noncomputable def C115 : Fun := ⟨[(.ro Y101)], [(Y101, .z)], fun z => F115 z.1⟩
noncomputable def E115 : Env := ⟨18, tyTab tys, oneTab ones, fnTab [(150, C150)], true, [], [(99999, [2], [])], none, [], []⟩
noncomputable def L115 : List (LoopS (D101 × Unit)) := []
theorem C115_ok : QuietOk Tryz.prog 115 C115 := tQ E115 L115 [] Tryz.func115 ty_ok (.cons C150_ok .nil) .nil
noncomputable def F84_R3 (e0_0 : List (D101) × Unit → Option (List (D101) × Unit)) (rec : List (D101) × Int × List (D101) × Unit → Option (List (D101) × Unit)) (x2 : List (D101) × Int × List (D101) × Unit) : Option (List (D101) × Unit) :=
 (cond (decide (x2.2.1 < (((List.length x2.1) : Nat) : Int)))
 (gd (decide ((0 : Int) ≤ x2.2.1))
 (Option.bind x2.1[(Int.toNat x2.2.1)]? fun y4 =>
 (Option.bind (F115 y4) fun y5 =>
 (gd (decide ((0 : Int) ≤ x2.2.1))
 (gd (decide (x2.2.1 < (((List.length x2.2.2.1) : Nat) : Int)))
 (Option.bind x2.2.2.1[(Int.toNat x2.2.1)]? fun y6 =>
 (rec (x2.1, (IntKind.wrap IntKind.i64 (x2.2.1 + (1 : Int))), (List.set x2.2.2.1 (Int.toNat x2.2.1) y5.1), ()))))))))
 (e0_0 (x2.2.2.1, ())))
noncomputable def F84 (a0 : List (D101)) : Option (List (D101) × Unit) :=
 (gd (decide ((((List.length a0) : Nat) : Int) ≤ ((4294967296 : Nat) : Int)))
 (gd (decide ((((List.length a0) : Nat) : Int) ≤ (((Int.toNat (((List.length a0) : Nat) : Int)) : Nat) : Int)))
 (iter (F84_R3
 (fun y7 =>
 (some (y7.1, ())))) fuel (a0, (0 : Int), (List.replicate (Int.toNat (((List.length a0) : Nat) : Int)) ([], ((0 : Int), (false, (((0 : Int), ((0 : Int), ([], ()))), ()))))), ()))))
noncomputable def C84 : Fun := ⟨[(.ro (.slice Y101))], [((.slice Y101), (.own .z))], fun z => F84 z.1⟩
noncomputable def E84 : Env := ⟨23, tyTab tys, oneTab ones, fnTab [(115, C115)], true, [], [(3, [0, 3, 4], []), (5, [0, 3, 4], []), (6, [3], []), (100000, [3], []), (100001, [0, 3, 4], []), (99999, [2], [])], none, [], []⟩
noncomputable def L84 : List (LoopS (List (D101) × Unit)) := [⟨3, ⟨[(0, (.pv (.slice Y101))), (3, (.ref (.slice Y101) 56 [])), (4, (.pv (.int .i64)))], [(56, (.data false (.slice Y101) (.own .z)))]⟩, fun κ => F84_R3 (fun y => κ.exit 0 (SSh.mk' ⟨[(3, (.ref (.slice Y101) 56 []))], [(56, (.data false (.slice Y101) (.own .z)))]⟩ y))⟩]
theorem L84_3 : RoundEq E84 L84 L84[0] (nthLoop (codeOf Tryz.f84) 0) := fun κ N x => by kernel_rfl
theorem C84_ok : FreshOk Tryz.prog 84 C84 := tF E84 L84 [nthLoop (codeOf Tryz.f84) 0] Tryz.func84 ty_ok (.cons C115_ok .nil) (.cons L84[0] (by kernel_rfl) L84_3 .nil)
noncomputable def F50 (a0 : D85) : Option (D85 × Unit) :=
 (Option.bind (F83 a0.2.2.1) fun y0 =>
 (Option.bind (F84 a0.2.2.2.1) fun y1 =>
 (some ((a0.1, (a0.2.1, (y0.1, (y1.1, ())))), ()))))
noncomputable def C50 : Fun := ⟨[(.ro Y85)], [(Y85, (.pr .z (.pr .z (.pr (.own (.pr .z (.pr (.pr (.own (.pr (.own .z) .z)) .z) .z))) (.pr (.own .z) .z)))))], fun z => F50 z.1⟩
noncomputable def E50 : Env := ⟨19, tyTab tys, oneTab ones, fnTab [(83, C83), (84, C84)], true, [], [(99999, [2], [])], none, [], []⟩
noncomputable def L50 : List (LoopS (D85 × Unit)) := []
theorem C50_ok : FreshOk Tryz.prog 50 C50 := tF E50 L50 [] Tryz.func50 ty_ok (.consFr C83_ok (.consFr C84_ok .nil)) .nil
noncomputable def F25_R3 (e0_0 : List (D85) × Unit → Option (List (D85) × Unit)) (rec : List (D85) × Int × List (D85) × Unit → Option (List (D85) × Unit)) (x2 : List (D85) × Int × List (D85) × Unit) : Option (List (D85) × Unit) :=
 (cond (decide (x2.2.1 < (((List.length x2.1) : Nat) : Int)))
 (gd (decide ((0 : Int) ≤ x2.2.1))
 (Option.bind x2.1[(Int.toNat x2.2.1)]? fun y4 =>
 (Option.bind (F50 y4) fun y5 =>
 (gd (decide ((0 : Int) ≤ x2.2.1))
 (gd (decide (x2.2.1 < (((List.length x2.2.2.1) : Nat) : Int)))
 (Option.bind x2.2.2.1[(Int.toNat x2.2.1)]? fun y6 =>
 (rec (x2.1, (IntKind.wrap IntKind.i64 (x2.2.1 + (1 : Int))), (List.set x2.2.2.1 (Int.toNat x2.2.1) y5.1), ()))))))))
 (e0_0 (x2.2.2.1, ())))
noncomputable def F25 (a0 : List (D85)) : Option (List (D85) × Unit) :=
 (gd (decide ((((List.length a0) : Nat) : Int) ≤ ((4294967296 : Nat) : Int)))
 (gd (decide ((((List.length a0) : Nat) : Int) ≤ (((Int.toNat (((List.length a0) : Nat) : Int)) : Nat) : Int)))
 (iter (F25_R3
 (fun y7 =>
 (some (y7.1, ())))) fuel (a0, (0 : Int), (List.replicate (Int.toNat (((List.length a0) : Nat) : Int)) ((0 : Int), ((0 : Int), ([], ([], ()))))), ()))))
noncomputable def C25 : Fun := ⟨[(.ro (.slice Y85))], [((.slice Y85), (.own (.pr .z (.pr .z (.pr (.own (.pr .z (.pr (.pr (.own (.pr (.own .z) .z)) .z) .z))) (.pr (.own .z) .z))))))], fun z => F25 z.1⟩
noncomputable def E25 : Env := ⟨23, tyTab tys, oneTab ones, fnTab [(50, C50)], true, [], [(3, [0, 3, 4], []), (5, [0, 3, 4], []), (6, [3], []), (100000, [3], []), (100001, [0, 3, 4], []), (99999, [2], [])], none, [], []⟩
noncomputable def L25 : List (LoopS (List (D85) × Unit)) := [⟨3, ⟨[(0, (.pv (.slice Y85))), (3, (.ref (.slice Y85) 56 [])), (4, (.pv (.int .i64)))], [(56, (.data false (.slice Y85) (.own (.pr .z (.pr .z (.pr (.own (.pr .z (.pr (.pr (.own (.pr (.own .z) .z)) .z) .z))) (.pr (.own .z) .z)))))))]⟩, fun κ => F25_R3 (fun y => κ.exit 0 (SSh.mk' ⟨[(3, (.ref (.slice Y85) 56 []))], [(56, (.data false (.slice Y85) (.own (.pr .z (.pr .z (.pr (.own (.pr .z (.pr (.pr (.own (.pr (.own .z) .z)) .z) .z))) (.pr (.own .z) .z)))))))]⟩ y))⟩]
theorem L25_3 : RoundEq E25 L25 L25[0] (nthLoop (codeOf Tryz.f25) 0) := fun κ N x => by kernel_rfl
theorem C25_ok : FreshOk Tryz.prog 25 C25 := tF E25 L25 [nthLoop (codeOf Tryz.f25) 0] Tryz.func25 ty_ok (.consFr C50_ok .nil) (.cons L25[0] (by kernel_rfl) L25_3 .nil)
noncomputable def F116 (a0 : D162) : Option (D162 × Unit) :=
 (Option.bind (F115 a0.1) fun y0 =>
 (Option.bind (F150 a0.2.1) fun y1 =>
 (some ((y0.1, (y1.1, (a0.2.2.1, ()))), ()))))
noncomputable def C116 : Fun := ⟨[(.ro Y162)], [(Y162, .z)], fun z => F116 z.1⟩
noncomputable def E116 : Env := ⟨16, tyTab tys, oneTab ones, fnTab [(115, C115), (150, C150)], true, [], [(99999, [2], [])], none, [], []⟩
noncomputable def L116 : List (LoopS (D162 × Unit)) := []
theorem C116_ok : QuietOk Tryz.prog 116 C116 := tQ E116 L116 [] Tryz.func116 ty_ok (.cons C115_ok (.cons C150_ok .nil)) .nil
noncomputable def F85_R3 (e0_0 : List (D162) × Unit → Option (List (D162) × Unit)) (rec : List (D162) × Int × List (D162) × Unit → Option (List (D162) × Unit)) (x2 : List (D162) × Int × List (D162) × Unit) : Option (List (D162) × Unit) :=
 (cond (decide (x2.2.1 < (((List.length x2.1) : Nat) : Int)))
 (gd (decide ((0 : Int) ≤ x2.2.1))
 (Option.bind x2.1[(Int.toNat x2.2.1)]? fun y4 =>
 (Option.bind (F116 y4) fun y5 =>
 (gd (decide ((0 : Int) ≤ x2.2.1))
 (gd (decide (x2.2.1 < (((List.length x2.2.2.1) : Nat) : Int)))
 (Option.bind x2.2.2.1[(Int.toNat x2.2.1)]? fun y6 =>
 (rec (x2.1, (IntKind.wrap IntKind.i64 (x2.2.1 + (1 : Int))), (List.set x2.2.2.1 (Int.toNat x2.2.1) y5.1), ()))))))))
 (e0_0 (x2.2.2.1, ())))
noncomputable def F85 (a0 : List (D162)) : Option (List (D162) × Unit) :=
 (gd (decide ((((List.length a0) : Nat) : Int) ≤ ((4294967296 : Nat) : Int)))
 (gd (decide ((((List.length a0) : Nat) : Int) ≤ (((Int.toNat (((List.length a0) : Nat) : Int)) : Nat) : Int)))
 (iter (F85_R3
 (fun y7 =>
 (some (y7.1, ())))) fuel (a0, (0 : Int), (List.replicate (Int.toNat (((List.length a0) : Nat) : Int)) (([], ((0 : Int), (false, (((0 : Int), ((0 : Int), ([], ()))), ())))), (((0 : Int), ((0 : Int), ([], ()))), (false, ())))), ()))))
noncomputable def C85 : Fun := ⟨[(.ro (.slice Y162))], [((.slice Y162), (.own .z))], fun z => F85 z.1⟩
noncomputable def E85 : Env := ⟨23, tyTab tys, oneTab ones, fnTab [(116, C116)], true, [], [(3, [0, 3, 4], []), (5, [0, 3, 4], []), (6, [3], []), (100000, [3], []), (100001, [0, 3, 4], []), (99999, [2], [])], none, [], []⟩
noncomputable def L85 : List (LoopS (List (D162) × Unit)) := [⟨3, ⟨[(0, (.pv (.slice Y162))), (3, (.ref (.slice Y162) 56 [])), (4, (.pv (.int .i64)))], [(56, (.data false (.slice Y162) (.own .z)))]⟩, fun κ => F85_R3 (fun y => κ.exit 0 (SSh.mk' ⟨[(3, (.ref (.slice Y162) 56 []))], [(56, (.data false (.slice Y162) (.own .z)))]⟩ y))⟩]
theorem L85_3 : RoundEq E85 L85 L85[0] (nthLoop (codeOf Tryz.f85) 0) := fun κ N x => by kernel_rfl
theorem C85_ok : FreshOk Tryz.prog 85 C85 := tF E85 L85 [nthLoop (codeOf Tryz.f85) 0] Tryz.func85 ty_ok (.cons C116_ok .nil) (.cons L85[0] (by kernel_rfl) L85_3 .nil)
noncomputable def F51 (a0 : D89) : Option (D89 × Unit) :=
 (Option.bind (F83 a0.2.2.1) fun y0 =>
 (Option.bind (F85 a0.2.2.2.1) fun y1 =>
 (some ((a0.1, (a0.2.1, (y0.1, (y1.1, (a0.2.2.2.2.1, (a0.2.2.2.2.2.1, ())))))), ()))))
noncomputable def C51 : Fun := ⟨[(.ro Y89)], [(Y89, (.pr .z (.pr .z (.pr (.own (.pr .z (.pr (.pr (.own (.pr (.own .z) .z)) .z) .z))) (.pr (.own .z) .z)))))], fun z => F51 z.1⟩
noncomputable def E51 : Env := ⟨25, tyTab tys, oneTab ones, fnTab [(83, C83), (85, C85)], true, [], [(99999, [2], [])], none, [], []⟩
noncomputable def L51 : List (LoopS (D89 × Unit)) := []
theorem C51_ok : FreshOk Tryz.prog 51 C51 := tF E51 L51 [] Tryz.func51 ty_ok (.consFr C83_ok (.consFr C85_ok .nil)) .nil
noncomputable def F26_R3 (e0_0 : List (D89) × Unit → Option (List (D89) × Unit)) (rec : List (D89) × Int × List (D89) × Unit → Option (List (D89) × Unit)) (x2 : List (D89) × Int × List (D89) × Unit) : Option (List (D89) × Unit) :=
 (cond (decide (x2.2.1 < (((List.length x2.1) : Nat) : Int)))
 (gd (decide ((0 : Int) ≤ x2.2.1))
 (Option.bind x2.1[(Int.toNat x2.2.1)]? fun y4 =>
 (Option.bind (F51 y4) fun y5 =>
 (gd (decide ((0 : Int) ≤ x2.2.1))
 (gd (decide (x2.2.1 < (((List.length x2.2.2.1) : Nat) : Int)))
 (Option.bind x2.2.2.1[(Int.toNat x2.2.1)]? fun y6 =>
 (rec (x2.1, (IntKind.wrap IntKind.i64 (x2.2.1 + (1 : Int))), (List.set x2.2.2.1 (Int.toNat x2.2.1) y5.1), ()))))))))
 (e0_0 (x2.2.2.1, ())))
noncomputable def F26 (a0 : List (D89)) : Option (List (D89) × Unit) :=
 (gd (decide ((((List.length a0) : Nat) : Int) ≤ ((4294967296 : Nat) : Int)))
 (gd (decide ((((List.length a0) : Nat) : Int) ≤ (((Int.toNat (((List.length a0) : Nat) : Int)) : Nat) : Int)))
 (iter (F26_R3
 (fun y7 =>
 (some (y7.1, ())))) fuel (a0, (0 : Int), (List.replicate (Int.toNat (((List.length a0) : Nat) : Int)) ((0 : Int), ((0 : Int), ([], ([], (false, (false, ()))))))), ()))))
noncomputable def C26 : Fun := ⟨[(.ro (.slice Y89))], [((.slice Y89), (.own (.pr .z (.pr .z (.pr (.own (.pr .z (.pr (.pr (.own (.pr (.own .z) .z)) .z) .z))) (.pr (.own .z) .z))))))], fun z => F26 z.1⟩
noncomputable def E26 : Env := ⟨23, tyTab tys, oneTab ones, fnTab [(51, C51)], true, [], [(3, [0, 3, 4], []), (5, [0, 3, 4], []), (6, [3], []), (100000, [3], []), (100001, [0, 3, 4], []), (99999, [2], [])], none, [], []⟩
noncomputable def L26 : List (LoopS (List (D89) × Unit)) := [⟨3, ⟨[(0, (.pv (.slice Y89))), (3, (.ref (.slice Y89) 56 [])), (4, (.pv (.int .i64)))], [(56, (.data false (.slice Y89) (.own (.pr .z (.pr .z (.pr (.own (.pr .z (.pr (.pr (.own (.pr (.own .z) .z)) .z) .z))) (.pr (.own .z) .z)))))))]⟩, fun κ => F26_R3 (fun y => κ.exit 0 (SSh.mk' ⟨[(3, (.ref (.slice Y89) 56 []))], [(56, (.data false (.slice Y89) (.own (.pr .z (.pr .z (.pr (.own (.pr .z (.pr (.pr (.own (.pr (.own .z) .z)) .z) .z))) (.pr (.own .z) .z)))))))]⟩ y))⟩]
theorem L26_3 : RoundEq E26 L26 L26[0] (nthLoop (codeOf Tryz.f26) 0) := fun κ N x => by kernel_rfl
theorem C26_ok : FreshOk Tryz.prog 26 C26 := tF E26 L26 [nthLoop (codeOf Tryz.f26) 0] Tryz.func26 ty_ok (.consFr C51_ok .nil) (.cons L26[0] (by kernel_rfl) L26_3 .nil)
noncomputable def F7 (a0 : D25) : Option (D25 × Unit) :=
 (Option.bind (F24 a0.1) fun y0 =>
 (Option.bind (F25 a0.2.1) fun y1 =>
 (Option.bind (F26 a0.2.2.1) fun y2 =>
 (some ((y0.1, (y1.1, (y2.1, (a0.2.2.2.1, ())))), ())))))
noncomputable def C7 : Fun := ⟨[(.ro Y25)], [(Y25, (.pr (.own (.pr .z (.pr (.own (.pr .z (.pr (.own .z) .z))) (.pr (.own (.pr .z (.pr (.own .z) .z))) .z)))) (.pr (.own (.pr .z (.pr .z (.pr (.own (.pr .z (.pr (.pr (.own (.pr (.own .z) .z)) .z) .z))) (.pr (.own .z) .z))))) (.pr (.own (.pr .z (.pr .z (.pr (.own (.pr .z (.pr (.pr (.own (.pr (.own .z) .z)) .z) .z))) (.pr (.own .z) .z))))) .z))))], fun z => F7 z.1⟩
noncomputable def E7 : Env := ⟨20, tyTab tys, oneTab ones, fnTab [(24, C24), (25, C25), (26, C26)], true, [], [(99999, [2], [])], none, [], []⟩
noncomputable def L7 : List (LoopS (D25 × Unit)) := []
theorem C7_ok : FreshOk Tryz.prog 7 C7 := tF E7 L7 [] Tryz.func7 ty_ok (.consFr C24_ok (.consFr C25_ok (.consFr C26_ok .nil))) .nil
noncomputable def F54 (a0 : Int) (a1 : Int) (a2 : Int) : Option (Bool × Unit) :=
 (cond (decide (a1 ≤ a0))
 (some ((decide (a0 ≤ a2)), ()))
 (some (false, ())))
noncomputable def C54 : Fun := ⟨[(.ro (.int .i64)), (.ro (.int .i64)), (.ro (.int .i64))], [(.bool, .z)], fun z => F54 z.1 z.2.1 z.2.2.1⟩
noncomputable def E54 : Env := ⟨15, tyTab tys, oneTab ones, fnTab [], false, [], [(99999, [6], [])], none, [], []⟩
noncomputable def L54 : List (LoopS (Bool × Unit)) := []
theorem C54_ok : QuietOk Tryz.prog 54 C54 := tQ E54 L54 [] Tryz.func54 ty_ok .nil .nil
noncomputable def F184 (a0 : Int) : Option (Bool × Unit) :=
 (cond (decide (a0 ≥ (97 : Int)))
 (cond (decide (a0 ≤ (122 : Int)))
 (some (true, ()))
 (cond (decide (a0 ≥ (65 : Int)))
 (cond (decide (a0 ≤ (90 : Int)))
 (some (true, ()))
 (some ((a0 == (95 : Int)), ())))
 (some ((a0 == (95 : Int)), ()))))
 (cond (decide (a0 ≥ (65 : Int)))
 (cond (decide (a0 ≤ (90 : Int)))
 (some (true, ()))
 (some ((a0 == (95 : Int)), ())))
 (some ((a0 == (95 : Int)), ()))))
noncomputable def C184 : Fun := ⟨[(.ro (.int .u8))], [(.bool, .z)], fun z => F184 z.1⟩
noncomputable def E184 : Env := ⟨21, tyTab tys, oneTab ones, fnTab [], false, [], [(99999, [2], [])], none, [], []⟩
noncomputable def L184 : List (LoopS (Bool × Unit)) := []
theorem C184_ok : QuietOk Tryz.prog 184 C184 := tQ E184 L184 [] Tryz.func184 ty_ok .nil .nil
noncomputable def F185 (a0 : Int) : Option (Bool × Unit) :=
 (cond (decide (a0 ≥ (48 : Int)))
 (some ((decide (a0 ≤ (57 : Int))), ()))
 (some (false, ())))
noncomputable def C185 : Fun := ⟨[(.ro (.int .u8))], [(.bool, .z)], fun z => F185 z.1⟩
noncomputable def E185 : Env := ⟨9, tyTab tys, oneTab ones, fnTab [], false, [], [(99999, [2], [])], none, [], []⟩
noncomputable def L185 : List (LoopS (Bool × Unit)) := []
theorem C185_ok : QuietOk Tryz.prog 185 C185 := tQ E185 L185 [] Tryz.func185 ty_ok .nil .nil
noncomputable def F157_R2 (e0_0 : List UInt8 × Unit → Option (Bool × Unit)) (er_1 : Bool × Unit → Option (Bool × Unit)) (rec : List UInt8 × Int × Int × Unit → Option (Bool × Unit)) (x2 : List UInt8 × Int × Int × Unit) : Option (Bool × Unit) :=
 (cond (decide (x2.2.2.1 < x2.2.1))
 (let j9 : List UInt8 × Int × Int × Unit → Option (Bool × Unit) := fun (y10 : List UInt8 × Int × Int × Unit) =>
 (rec (y10.1, y10.2.1, (IntKind.wrap IntKind.i64 (y10.2.2.1 + (1 : Int))), ()))
 (gd (decide ((0 : Int) ≤ x2.2.2.1))
 (Option.bind x2.1[(Int.toNat x2.2.2.1)]? fun y5 =>
 (Option.bind (F184 (((UInt8.toNat y5) : Nat) : Int)) fun y6 =>
 (cond (!y6.1)
 (gd (decide ((0 : Int) ≤ x2.2.2.1))
 (Option.bind x2.1[(Int.toNat x2.2.2.1)]? fun y7 =>
 (Option.bind (F185 (((UInt8.toNat y7) : Nat) : Int)) fun y8 =>
 (cond (!y8.1)
 (er_1 (false, ()))
 (cond (x2.2.2.1 == (0 : Int))
 (er_1 (false, ()))
 (j9 (x2.1, x2.2.1, x2.2.2.1, ())))))))
 (j9 (x2.1, x2.2.1, x2.2.2.1, ())))))))
 (e0_0 (x2.1, ())))
noncomputable def F157 (a0 : List UInt8) : Option (Bool × Unit) :=
 (iter (F157_R2
 (fun y11 =>
 (Option.bind (F54 (((List.length y11.1) : Nat) : Int) (1 : Int) (40 : Int)) fun y13 =>
 (some (y13.1, ()))))
 (fun y12 =>
 (some (y12.1, ())))) fuel (a0, (((List.length a0) : Nat) : Int), (0 : Int), ()))
noncomputable def C157 : Fun := ⟨[(.ro .str)], [(.bool, .z)], fun z => F157 z.1⟩
noncomputable def E157 : Env := ⟨29, tyTab tys, oneTab ones, fnTab [(54, C54), (184, C184), (185, C185)], false, [], [(2, [0, 5, 6], []), (3, [0, 5, 6], []), (6, [0, 5, 6], []), (7, [0], []), (100000, [0], []), (100001, [0, 5, 6], []), (99999, [2], [])], none, [], []⟩
noncomputable def L157 : List (LoopS (Bool × Unit)) := [⟨2, ⟨[(0, (.pv .str)), (5, (.pv (.int .i64))), (6, (.pv (.int .i64)))], []⟩, fun κ => F157_R2 (fun y => κ.exit 0 (SSh.mk' ⟨[(0, (.pv .str))], []⟩ y)) (fun y => κ.ret (SSh.mk' ⟨[(2, (.pv .bool))], []⟩ y))⟩]
theorem L157_2 : RoundEq E157 L157 L157[0] (nthLoop (codeOf Tryz.f157) 0) := fun κ N x => by kernel_rfl
theorem C157_ok : QuietOk Tryz.prog 157 C157 := tQ E157 L157 [nthLoop (codeOf Tryz.f157) 0] Tryz.func157 ty_ok (.cons C54_ok (.cons C184_ok (.cons C185_ok .nil))) (.cons L157[0] (by kernel_rfl) L157_2 .nil)
noncomputable def F120 (a0 : List UInt8) : Option (Bool × Unit) :=
 (cond (decide ((((List.length a0) : Nat) : Int) ≤ (12 : Int)))
 (Option.bind (F157 a0) fun y0 =>
 (some (y0.1, ())))
 (some (false, ())))
noncomputable def C120 : Fun := ⟨[(.ro .str)], [(.bool, .z)], fun z => F120 z.1⟩
noncomputable def E120 : Env := ⟨10, tyTab tys, oneTab ones, fnTab [(157, C157)], false, [], [(99999, [2], [])], none, [], []⟩
noncomputable def L120 : List (LoopS (Bool × Unit)) := []
theorem C120_ok : QuietOk Tryz.prog 120 C120 := tQ E120 L120 [] Tryz.func120 ty_ok (.cons C157_ok .nil) .nil
noncomputable def F180_R2 (e0_0 : Unit → Option (Int × Unit)) (er_1 : Int × Unit → Option (Int × Unit)) (rec : List (D209) × (D209 → Option (Bool)) × Int × Int × Unit → Option (Int × Unit)) (x2 : List (D209) × (D209 → Option (Bool)) × Int × Int × Unit) : Option (Int × Unit) :=
 (cond (decide (x2.2.2.2.1 < x2.2.2.1))
 (gd (decide ((0 : Int) ≤ x2.2.2.2.1))
 (Option.bind x2.1[(Int.toNat x2.2.2.2.1)]? fun y5 =>
 (Option.bind (x2.2.1 y5) fun y6 =>
 (cond y6
 (er_1 (x2.2.2.2.1, ()))
 (rec (x2.1, x2.2.1, x2.2.2.1, (IntKind.wrap IntKind.i64 (x2.2.2.2.1 + (1 : Int))), ()))))))
 (e0_0 (())))
noncomputable def F180 (a0 : List (D209)) (a1 : (D209 → Option (Bool))) : Option (Int × Unit) :=
 (iter (F180_R2
 (fun y7 =>
 (some ((-(1 : Int)), ())))
 (fun y8 =>
 (some (y8.1, ())))) fuel (a0, a1, (((List.length a0) : Nat) : Int), (0 : Int), ()))
noncomputable def C180 : Fun := ⟨[(.ro (.slice Y209)), (.fn Y209 .bool)], [((.int .i64), .z)], fun z => F180 z.1 z.2.1⟩
noncomputable def E180 : Env := ⟨19, tyTab tys, oneTab ones, fnTab [], false, [], [(2, [0, 1, 7, 8], []), (3, [0, 1, 7, 8], []), (6, [0, 1, 7, 8], []), (7, [], []), (100000, [], []), (100001, [0, 1, 7, 8], []), (99999, [4], [])], none, [], []⟩
noncomputable def L180 : List (LoopS (Int × Unit)) := [⟨2, ⟨[(0, (.pv (.slice Y209))), (1, (.fnA Y209 .bool)), (7, (.pv (.int .i64))), (8, (.pv (.int .i64)))], []⟩, fun κ => F180_R2 (fun y => κ.exit 0 (SSh.mk' ⟨[], []⟩ y)) (fun y => κ.ret (SSh.mk' ⟨[(4, (.pv (.int .i64)))], []⟩ y))⟩]
theorem L180_2 : RoundEq E180 L180 L180[0] (nthLoop (codeOf Tryz.f180) 0) := fun κ N x => by kernel_rfl
theorem C180_ok : QuietOk Tryz.prog 180 C180 := tQ E180 L180 [nthLoop (codeOf Tryz.f180) 0] Tryz.func180 ty_ok .nil (.cons L180[0] (by kernel_rfl) L180_2 .nil)
noncomputable def F151 (a0 : List (D209)) (a1 : (D209 → Option (Bool))) : Option (Bool × Unit) :=
 (Option.bind (F180 a0 a1) fun y0 =>
 (some ((decide (y0.1 ≥ (0 : Int))), ())))
noncomputable def C151 : Fun := ⟨[(.ro (.slice Y209)), (.fn Y209 .bool)], [(.bool, .z)], fun z => F151 z.1 z.2.1⟩
noncomputable def E151 : Env := ⟨9, tyTab tys, oneTab ones, fnTab [(180, C180)], false, [], [(99999, [4], [])], none, [], []⟩
noncomputable def L151 : List (LoopS (Bool × Unit)) := []
theorem C151_ok : QuietOk Tryz.prog 151 C151 := tQ E151 L151 [] Tryz.func151 ty_ok (.cons C180_ok .nil) .nil
noncomputable def F101_R2 (e0_0 : Unit → Option (Int × Unit)) (er_1 : Int × Unit → Option (Int × Unit)) (rec : List (List UInt8) × (List UInt8 → Option (Bool)) × Int × Int × Unit → Option (Int × Unit)) (x2 : List (List UInt8) × (List UInt8 → Option (Bool)) × Int × Int × Unit) : Option (Int × Unit) :=
 (cond (decide (x2.2.2.2.1 < x2.2.2.1))
 (gd (decide ((0 : Int) ≤ x2.2.2.2.1))
 (Option.bind x2.1[(Int.toNat x2.2.2.2.1)]? fun y5 =>
 (Option.bind (x2.2.1 y5) fun y6 =>
 (cond y6
 (er_1 (x2.2.2.2.1, ()))
 (rec (x2.1, x2.2.1, x2.2.2.1, (IntKind.wrap IntKind.i64 (x2.2.2.2.1 + (1 : Int))), ()))))))
 (e0_0 (())))
noncomputable def F101 (a0 : List (List UInt8)) (a1 : (List UInt8 → Option (Bool))) : Option (Int × Unit) :=
 (iter (F101_R2
 (fun y7 =>
 (some ((-(1 : Int)), ())))
 (fun y8 =>
 (some (y8.1, ())))) fuel (a0, a1, (((List.length a0) : Nat) : Int), (0 : Int), ()))
noncomputable def C101 : Fun := ⟨[(.ro (.slice .str)), (.fn .str .bool)], [((.int .i64), .z)], fun z => F101 z.1 z.2.1⟩
noncomputable def E101 : Env := ⟨19, tyTab tys, oneTab ones, fnTab [], false, [], [(2, [0, 1, 7, 8], []), (3, [0, 1, 7, 8], []), (6, [0, 1, 7, 8], []), (7, [], []), (100000, [], []), (100001, [0, 1, 7, 8], []), (99999, [4], [])], none, [], []⟩
noncomputable def L101 : List (LoopS (Int × Unit)) := [⟨2, ⟨[(0, (.pv (.slice .str))), (1, (.fnA .str .bool)), (7, (.pv (.int .i64))), (8, (.pv (.int .i64)))], []⟩, fun κ => F101_R2 (fun y => κ.exit 0 (SSh.mk' ⟨[], []⟩ y)) (fun y => κ.ret (SSh.mk' ⟨[(4, (.pv (.int .i64)))], []⟩ y))⟩]
theorem L101_2 : RoundEq E101 L101 L101[0] (nthLoop (codeOf Tryz.f101) 0) := fun κ N x => by kernel_rfl
theorem C101_ok : QuietOk Tryz.prog 101 C101 := tQ E101 L101 [nthLoop (codeOf Tryz.f101) 0] Tryz.func101 ty_ok .nil (.cons L101[0] (by kernel_rfl) L101_2 .nil)
noncomputable def F69 (a0 : List (List UInt8)) (a1 : (List UInt8 → Option (Bool))) : Option (Bool × Unit) :=
 (Option.bind (F101 a0 a1) fun y0 =>
 (some ((decide (y0.1 ≥ (0 : Int))), ())))
noncomputable def C69 : Fun := ⟨[(.ro (.slice .str)), (.fn .str .bool)], [(.bool, .z)], fun z => F69 z.1 z.2.1⟩
noncomputable def E69 : Env := ⟨9, tyTab tys, oneTab ones, fnTab [(101, C101)], false, [], [(99999, [4], [])], none, [], []⟩
noncomputable def L69 : List (LoopS (Bool × Unit)) := []
theorem C69_ok : QuietOk Tryz.prog 69 C69 := tQ E69 L69 [] Tryz.func69 ty_ok (.cons C101_ok .nil) .nil
noncomputable def F246 (a0 : List UInt8) (a1 : Int) : Option (Int × Unit) :=
 (Option.bind (F256 a0 a1) fun y0 =>
 (some (y0.1, ())))
noncomputable def C246 : Fun := ⟨[(.ro .str), (.ro (.int .u8))], [((.int .i64), .z)], fun z => F246 z.1 z.2.1⟩
noncomputable def E246 : Env := ⟨8, tyTab tys, oneTab ones, fnTab [], false, [], [(99999, [4], [])], none, [(256, C256)], []⟩
noncomputable def L246 : List (LoopS (Int × Unit)) := []
theorem C246_ok : QuietOk Tryz.prog 246 C246 := tQ E246 L246 [] Tryz.func246 ty_ok .nil .nil (hx := (.cons C256_ok .nil))
noncomputable def F248 (a0 : Int) : Option (Int × Unit) :=
 (some ((IntKind.wrap IntKind.i64 (Int.tdiv (IntKind.wrap IntKind.i64 (a0 + (16 : Int))) (8 : Int))), ()))
noncomputable def C248 : Fun := ⟨[(.ro (.int .i64))], [((.int .i64), .z)], fun z => F248 z.1⟩
noncomputable def E248 : Env := ⟨6, tyTab tys, oneTab ones, fnTab [], false, [], [(99999, [2], [])], none, [], []⟩
noncomputable def L248 : List (LoopS (Int × Unit)) := []
theorem C248_ok : QuietOk Tryz.prog 248 C248 := tQ E248 L248 [] Tryz.func248 ty_ok .nil .nil
noncomputable def F240 (a0 : List UInt8) (a1 : List UInt8) : Option (Int × Unit) :=
 (cond ((((List.length a1) : Nat) : Int) == (0 : Int))
 (some ((0 : Int), ()))
 (cond (a1 == a0)
 (some ((0 : Int), ()))
 (cond ((((List.length a1) : Nat) : Int) == (1 : Int))
 (Option.bind a1[(Int.toNat (0 : Int))]? fun y1 =>
 (Option.bind (F246 a0 (((UInt8.toNat y1) : Nat) : Int)) fun y2 =>
 (some (y2.1, ()))))
 (gd (decide ((((List.length a1) : Nat) : Int) ≥ (((List.length a0) : Nat) : Int)))
 (some ((-(1 : Int)), ()))))))
noncomputable def C240 : Fun := ⟨[(.ro .str), (.ro .str)], [((.int .i64), .z)], fun z => F240 z.1 z.2.1⟩
noncomputable def E240 : Env := ⟨143, tyTab tys, oneTab ones, fnTab [(246, C246), (248, C248)], false, [], [(10, [0, 1, 5], []), (15, [0, 1, 5, 6, 7, 8, 9, 10], []), (16, [0, 1, 5, 6, 7, 8, 9, 10], []), (20, [0, 1, 5, 6, 7, 8, 9, 10, 11], []), (21, [0, 1, 5, 6, 7, 8, 9, 10], []), (23, [0, 1, 5, 6, 7, 8, 9, 10], []), (29, [], []), (34, [8, 13], []), (35, [], []), (100000, [0, 1, 5], []), (100001, [], []), (100002, [0, 1, 5, 6, 7, 8, 9, 10], []), (99999, [4], [])], none, [], []⟩
noncomputable def L240 : List (LoopS (Int × Unit)) := []
theorem C240_ok : QuietOk Tryz.prog 240 C240 := tQ E240 L240 [nthLoop (codeOf Tryz.f240) 0] Tryz.func240 ty_ok (.cons C246_ok (.cons C248_ok .nil)) (.skip (by kernel_rfl) .nil)
noncomputable def F226 (a0 : List UInt8) (a1 : List UInt8) : Option (Int × Unit) :=
 (Option.bind (F240 a0 a1) fun y0 =>
 (some (y0.1, ())))
noncomputable def C226 : Fun := ⟨[(.ro .str), (.ro .str)], [((.int .i64), .z)], fun z => F226 z.1 z.2.1⟩
noncomputable def E226 : Env := ⟨8, tyTab tys, oneTab ones, fnTab [(240, C240)], false, [], [(99999, [4], [])], none, [], []⟩
noncomputable def L226 : List (LoopS (Int × Unit)) := []
theorem C226_ok : QuietOk Tryz.prog 226 C226 := tQ E226 L226 [] Tryz.func226 ty_ok (.cons C240_ok .nil) .nil
noncomputable def F225_R6 (er_0 : Int × Unit → Option (Int × Unit)) (rec : List UInt8 × List UInt8 × Int × Unit → Option (Int × Unit)) (x5 : List UInt8 × List UInt8 × Int × Unit) : Option (Int × Unit) :=
 (Option.bind (F226 x5.1 x5.2.1) fun y6 =>
 (cond (y6.1 == (-(1 : Int)))
 (er_0 (x5.2.2.1, ()))
 (gd (decide ((((List.length x5.1) : Nat) : Int) ≤ (((List.length x5.1) : Nat) : Int)))
 (gd (decide ((0 : Int) ≤ (IntKind.wrap IntKind.i64 (y6.1 + (((List.length x5.2.1) : Nat) : Int)))))
 (gd (decide ((IntKind.wrap IntKind.i64 (y6.1 + (((List.length x5.2.1) : Nat) : Int))) ≤ (((Int.toNat (((List.length x5.1) : Nat) : Int)) : Nat) : Int)))
 (rec ((List.drop (Int.toNat (IntKind.wrap IntKind.i64 (y6.1 + (((List.length x5.2.1) : Nat) : Int)))) (List.take (Int.toNat (((List.length x5.1) : Nat) : Int)) x5.1)), x5.2.1, (IntKind.wrap IntKind.i64 (x5.2.2.1 + (1 : Int))), ())))))))
noncomputable def F225 (a0 : List UInt8) (a1 : List UInt8) : Option (Int × Unit) :=
 (cond ((((List.length a1) : Nat) : Int) == (0 : Int))
 none
 (cond ((((List.length a1) : Nat) : Int) == (1 : Int))
 (Option.bind a1[(Int.toNat (0 : Int))]? fun y2 =>
 (Option.bind (F239 a0 (((UInt8.toNat y2) : Nat) : Int)) fun y3 =>
 (some (y3.1, ()))))
 (iter (F225_R6
 (fun y8 =>
 (some (y8.1, ())))) fuel (a0, a1, (0 : Int), ()))))
noncomputable def C225 : Fun := ⟨[(.ro .str), (.ro .str)], [((.int .i64), .z)], fun z => F225 z.1 z.2.1⟩
noncomputable def E225 : Env := ⟨34, tyTab tys, oneTab ones, fnTab [(226, C226)], false, [], [(3, [0, 1], []), (5, [0, 1], []), (6, [0, 1, 5], []), (9, [0, 1, 5, 6], []), (100000, [], []), (100001, [0, 1, 5], []), (99999, [4], [])], none, [(239, C239)], []⟩
noncomputable def L225 : List (LoopS (Int × Unit)) := [⟨6, ⟨[(0, (.pv .str)), (1, (.pv .str)), (5, (.pv (.int .i64)))], []⟩, fun κ => F225_R6 (fun y => κ.ret (SSh.mk' ⟨[(4, (.pv (.int .i64)))], []⟩ y))⟩]
theorem L225_6 : RoundEq E225 L225 L225[0] (nthLoop (codeOf Tryz.f225) 0) := fun κ N x => by kernel_rfl
theorem C225_ok : QuietOk Tryz.prog 225 C225 := tQ E225 L225 [nthLoop (codeOf Tryz.f225) 0] Tryz.func225 ty_ok (.cons C226_ok .nil) (.cons L225[0] (by kernel_rfl) L225_6 .nil) (hx := (.cons C239_ok .nil))
noncomputable def F214_R11 (e0_0 : List UInt8 × Int × List (List UInt8) × Unit → Option (List (List UInt8) × Unit)) (rec : List UInt8 × List UInt8 × Int × Int × Int × List (List UInt8) × Unit → Option (List (List UInt8) × Unit)) (x8 : List UInt8 × List UInt8 × Int × Int × Int × List (List UInt8) × Unit) : Option (List (List UInt8) × Unit) :=
 (cond (decide (x8.2.2.2.2.1 < x8.2.2.2.1))
 (Option.bind (F226 x8.1 x8.2.1) fun y10 =>
 (cond (decide (y10.1 < (0 : Int)))
 (e0_0 (x8.1, x8.2.2.2.2.1, x8.2.2.2.2.2.1, ()))
 (gd (decide ((0 : Int) ≤ (IntKind.wrap IntKind.i64 (y10.1 + x8.2.2.1))))
 (gd (decide ((IntKind.wrap IntKind.i64 (y10.1 + x8.2.2.1)) ≤ (((List.length x8.1) : Nat) : Int)))
 (gd (decide ((0 : Int) ≤ x8.2.2.2.2.1))
 (gd (decide (x8.2.2.2.2.1 < (((List.length x8.2.2.2.2.2.1) : Nat) : Int)))
 (Option.bind x8.2.2.2.2.2.1[(Int.toNat x8.2.2.2.2.1)]? fun y12 =>
 (gd (decide ((((List.length x8.1) : Nat) : Int) ≤ (((List.length x8.1) : Nat) : Int)))
 (gd (decide ((0 : Int) ≤ (IntKind.wrap IntKind.i64 (y10.1 + (((List.length x8.2.1) : Nat) : Int)))))
 (gd (decide ((IntKind.wrap IntKind.i64 (y10.1 + (((List.length x8.2.1) : Nat) : Int))) ≤ (((Int.toNat (((List.length x8.1) : Nat) : Int)) : Nat) : Int)))
 (rec ((List.drop (Int.toNat (IntKind.wrap IntKind.i64 (y10.1 + (((List.length x8.2.1) : Nat) : Int)))) (List.take (Int.toNat (((List.length x8.1) : Nat) : Int)) x8.1)), x8.2.1, x8.2.2.1, x8.2.2.2.1, (IntKind.wrap IntKind.i64 (x8.2.2.2.2.1 + (1 : Int))), (List.set x8.2.2.2.2.2.1 (Int.toNat x8.2.2.2.2.1) (List.drop (Int.toNat (0 : Int)) (List.take (Int.toNat (IntKind.wrap IntKind.i64 (y10.1 + x8.2.2.1))) x8.1))), ()))))))))))))
 (e0_0 (x8.1, x8.2.2.2.2.1, x8.2.2.2.2.2.1, ())))
noncomputable def F214 (a0 : List UInt8) (a1 : List UInt8) (a2 : Int) (a3 : Int) : Option (List (List UInt8) × Unit) :=
 (cond (a3 == (0 : Int))
 (some ([], ()))
 (cond (a1 == [])
 none
 (let j4 : List UInt8 × List UInt8 × Int × Int × Unit → Option (List (List UInt8) × Unit) := fun (y5 : List UInt8 × List UInt8 × Int × Int × Unit) =>
 (gd (decide ((0 : Int) ≤ (cond (decide ((IntKind.wrap IntKind.i64 ((((List.length y5.1) : Nat) : Int) + (1 : Int))) < y5.2.2.2.1)) (IntKind.wrap IntKind.i64 ((((List.length y5.1) : Nat) : Int) + (1 : Int))) y5.2.2.2.1)))
 (gd (decide ((cond (decide ((IntKind.wrap IntKind.i64 ((((List.length y5.1) : Nat) : Int) + (1 : Int))) < y5.2.2.2.1)) (IntKind.wrap IntKind.i64 ((((List.length y5.1) : Nat) : Int) + (1 : Int))) y5.2.2.2.1) ≤ ((4294967296 : Nat) : Int)))
 (gd (decide ((0 : Int) ≤ (cond (decide ((IntKind.wrap IntKind.i64 ((((List.length y5.1) : Nat) : Int) + (1 : Int))) < y5.2.2.2.1)) (IntKind.wrap IntKind.i64 ((((List.length y5.1) : Nat) : Int) + (1 : Int))) y5.2.2.2.1)))
 (gd (decide ((cond (decide ((IntKind.wrap IntKind.i64 ((((List.length y5.1) : Nat) : Int) + (1 : Int))) < y5.2.2.2.1)) (IntKind.wrap IntKind.i64 ((((List.length y5.1) : Nat) : Int) + (1 : Int))) y5.2.2.2.1) ≤ (((Int.toNat (cond (decide ((IntKind.wrap IntKind.i64 ((((List.length y5.1) : Nat) : Int) + (1 : Int))) < y5.2.2.2.1)) (IntKind.wrap IntKind.i64 ((((List.length y5.1) : Nat) : Int) + (1 : Int))) y5.2.2.2.1)) : Nat) : Int)))
 (iter (F214_R11
 (fun y13 =>
 (gd (decide ((0 : Int) ≤ y13.2.1))
 (gd (decide (y13.2.1 < (((List.length y13.2.2.1) : Nat) : Int)))
 (Option.bind y13.2.2.1[(Int.toNat y13.2.1)]? fun y14 =>
 (gd (decide ((0 : Int) ≤ (IntKind.wrap IntKind.i64 (y13.2.1 + (1 : Int)))))
 (gd (decide ((IntKind.wrap IntKind.i64 (y13.2.1 + (1 : Int))) ≤ (((List.length (List.set y13.2.2.1 (Int.toNat y13.2.1) y13.1)) : Nat) : Int)))
 (some ((List.drop (Int.toNat (0 : Int)) (List.take (Int.toNat (IntKind.wrap IntKind.i64 (y13.2.1 + (1 : Int)))) (List.set y13.2.2.1 (Int.toNat y13.2.1) y13.1))), ()))))))))) fuel (y5.1, y5.2.1, y5.2.2.1, (IntKind.wrap IntKind.i64 ((cond (decide ((IntKind.wrap IntKind.i64 ((((List.length y5.1) : Nat) : Int) + (1 : Int))) < y5.2.2.2.1)) (IntKind.wrap IntKind.i64 ((((List.length y5.1) : Nat) : Int) + (1 : Int))) y5.2.2.2.1) - (1 : Int))), (0 : Int), (List.replicate (Int.toNat (cond (decide ((IntKind.wrap IntKind.i64 ((((List.length y5.1) : Nat) : Int) + (1 : Int))) < y5.2.2.2.1)) (IntKind.wrap IntKind.i64 ((((List.length y5.1) : Nat) : Int) + (1 : Int))) y5.2.2.2.1)) []), ()))))))
 (cond (decide (a3 < (0 : Int)))
 (Option.bind (F225 a0 a1) fun y3 =>
 (j4 (a0, a1, a2, (IntKind.wrap IntKind.i64 (y3.1 + (1 : Int))), ())))
 (j4 (a0, a1, a2, a3, ()))))))
noncomputable def C214 : Fun := ⟨[(.ro .str), (.ro .str), (.ro (.int .i64)), (.ro (.int .i64))], [((.slice .str), .z)], fun z => F214 z.1 z.2.1 z.2.2.1 z.2.2.2.1⟩
noncomputable def E214 : Env := ⟨66, tyTab tys, oneTab ones, fnTab [(225, C225), (226, C226)], false, [], [(3, [0, 1, 2, 3], []), (5, [0, 1, 2, 3], []), (7, [0, 1, 2, 3], []), (11, [0, 1, 2, 3, 9, 10], []), (12, [0, 1, 2, 3, 9, 10], []), (14, [0, 1, 2, 3, 9, 10, 11], []), (17, [0, 9, 10], []), (100000, [0, 9, 10], []), (100001, [0, 1, 2, 3, 9, 10], []), (99999, [8], [])], none, [], []⟩
noncomputable def L214 : List (LoopS (List (List UInt8) × Unit)) := [⟨11, ⟨[(0, (.pv .str)), (1, (.pv .str)), (2, (.pv (.int .i64))), (3, (.pv (.int .i64))), (9, (.ref (.slice .str) 248 [])), (10, (.pv (.int .i64)))], [(248, (.data false (.slice .str) (.own .z)))]⟩, fun κ => F214_R11 (fun y => κ.exit 0 (SSh.mk' ⟨[(0, (.pv .str)), (9, (.ref (.slice .str) 248 [])), (10, (.pv (.int .i64)))], [(248, (.data false (.slice .str) (.own .z)))]⟩ y))⟩]
theorem L214_11 : RoundEq E214 L214 L214[0] (nthLoop (codeOf Tryz.f214) 0) := fun κ N x => by kernel_rfl
theorem C214_ok : QuietOk Tryz.prog 214 C214 := tQ E214 L214 [nthLoop (codeOf Tryz.f214) 0] Tryz.func214 ty_ok (.cons C225_ok (.cons C226_ok .nil)) (.cons L214[0] (by kernel_rfl) L214_11 .nil)
noncomputable def F199 (a0 : List UInt8) (a1 : List UInt8) : Option (List (List UInt8) × Unit) :=
 (Option.bind (F214 a0 a1 (0 : Int) (-(1 : Int))) fun y0 =>
 (some (y0.1, ())))
noncomputable def C199 : Fun := ⟨[(.ro .str), (.ro .str)], [((.slice .str), .z)], fun z => F199 z.1 z.2.1⟩
noncomputable def E199 : Env := ⟨8, tyTab tys, oneTab ones, fnTab [(214, C214)], false, [], [(99999, [4], [])], none, [], []⟩
noncomputable def L199 : List (LoopS (List (List UInt8) × Unit)) := []
theorem C199_ok : QuietOk Tryz.prog 199 C199 := tQ E199 L199 [] Tryz.func199 ty_ok (.cons C214_ok .nil) .nil
noncomputable def F200 (a0 : List UInt8) : Option (Bool × Unit) :=
 (Option.bind (F120 a0) fun y0 =>
 (some ((!y0.1), ())))
noncomputable def C200 : Fun := ⟨[(.ro .str)], [(.bool, .z)], fun z => F200 z.1⟩
noncomputable def E200 : Env := ⟨6, tyTab tys, oneTab ones, fnTab [(120, C120)], false, [], [(99999, [2], [])], none, [], []⟩
noncomputable def L200 : List (LoopS (Bool × Unit)) := []
theorem C200_ok : QuietOk Tryz.prog 200 C200 := tQ E200 L200 [] Tryz.func200 ty_ok (.cons C120_ok .nil) .nil
noncomputable def F181 (a0 : List UInt8) : Option (Bool × Unit) :=
 (Option.bind (F199 a0 [(46 : UInt8)]) fun y0 =>
 (cond (decide ((((List.length a0) : Nat) : Int) ≤ (50 : Int)))
 (cond (decide ((((List.length y0.1) : Nat) : Int) ≤ (4 : Int)))
 (Option.bind (F69 y0.1 (fun (v3 : List UInt8) => (Option.map (fun (v4 : (Bool × Unit)) => v4.1) (F200 v3)))) fun y1 =>
 (some ((!y1.1), ())))
 (some (false, ())))
 (some (false, ()))))
noncomputable def C181 : Fun := ⟨[(.ro .str)], [(.bool, .z)], fun z => F181 z.1⟩
noncomputable def E181 : Env := ⟨19, tyTab tys, oneTab ones, fnTab [(69, C69), (199, C199), (200, C200)], false, [], [(99999, [2], [])], none, [], []⟩
noncomputable def L181 : List (LoopS (Bool × Unit)) := []
theorem C181_ok : QuietOk Tryz.prog 181 C181 := tQ E181 L181 [] Tryz.func181 ty_ok (.cons C69_ok (.cons C199_ok (.cons C200_ok .nil))) .nil
noncomputable def F153 (a0 : D209) : Option (Bool × Unit) :=
 (Option.bind (F181 a0.1) fun y0 =>
 (some (y0.1, ())))
noncomputable def C153 : Fun := ⟨[(.ro Y209)], [(.bool, .z)], fun z => F153 z.1⟩
noncomputable def E153 : Env := ⟨6, tyTab tys, oneTab ones, fnTab [(181, C181)], false, [], [(99999, [2], [])], none, [], []⟩
noncomputable def L153 : List (LoopS (Bool × Unit)) := []
theorem C153_ok : QuietOk Tryz.prog 153 C153 := tQ E153 L153 [] Tryz.func153 ty_ok (.cons C181_ok .nil) .nil
noncomputable def F152 (a0 : D209) : Option (Bool × Unit) :=
 (Option.bind (F153 a0) fun y0 =>
 (some ((!y0.1), ())))
noncomputable def C152 : Fun := ⟨[(.ro Y209)], [(.bool, .z)], fun z => F152 z.1⟩
noncomputable def E152 : Env := ⟨6, tyTab tys, oneTab ones, fnTab [(153, C153)], false, [], [(99999, [2], [])], none, [], []⟩
noncomputable def L152 : List (LoopS (Bool × Unit)) := []
theorem C152_ok : QuietOk Tryz.prog 152 C152 := tQ E152 L152 [] Tryz.func152 ty_ok (.cons C153_ok .nil) .nil
noncomputable def F117 (a0 : D158) : Option (Bool × Unit) :=
 (Option.bind (F120 a0.1) fun y1 =>
 (cond (!y1.1)
 (some (false, ()))
 (Option.bind (F54 (((List.length a0.2.1) : Nat) : Int) (1 : Int) (2 : Int)) fun y2 =>
 (cond (!y2.1)
 (some (false, ()))
 (Option.bind (F151 a0.2.1 (fun (v5 : D209) => (Option.map (fun (v6 : (Bool × Unit)) => v6.1) (F152 v5)))) fun y3 =>
 (cond y3.1
 (some (false, ()))
 (cond ((((List.length a0.2.1) : Nat) : Int) == (1 : Int))
 (some (true, ()))
 (Option.bind a0.2.1[(Int.toNat (0 : Int))]? fun y4 =>
 (Option.bind a0.2.1[(Int.toNat (1 : Int))]? fun y5 =>
 (some ((!(y4.1 == y5.1)), ())))))))))))
noncomputable def C117 : Fun := ⟨[(.ro Y158)], [(.bool, .z)], fun z => F117 z.1⟩
noncomputable def E117 : Env := ⟨36, tyTab tys, oneTab ones, fnTab [(54, C54), (120, C120), (151, C151), (152, C152)], false, [], [(3, [1], []), (99999, [2], [])], none, [], []⟩
noncomputable def L117 : List (LoopS (Bool × Unit)) := []
theorem C117_ok : QuietOk Tryz.prog 117 C117 := tQ E117 L117 [] Tryz.func117 ty_ok (.cons C54_ok (.cons C120_ok (.cons C151_ok (.cons C152_ok .nil)))) .nil
noncomputable def F154_R2 (e0_0 : Unit → Option (Int × Unit)) (er_1 : Int × Unit → Option (Int × Unit)) (rec : List (D158) × (D158 → Option (Bool)) × Int × Int × Unit → Option (Int × Unit)) (x2 : List (D158) × (D158 → Option (Bool)) × Int × Int × Unit) : Option (Int × Unit) :=
 (cond (decide (x2.2.2.2.1 < x2.2.2.1))
 (gd (decide ((0 : Int) ≤ x2.2.2.2.1))
 (Option.bind x2.1[(Int.toNat x2.2.2.2.1)]? fun y5 =>
 (Option.bind (x2.2.1 y5) fun y6 =>
 (cond y6
 (er_1 (x2.2.2.2.1, ()))
 (rec (x2.1, x2.2.1, x2.2.2.1, (IntKind.wrap IntKind.i64 (x2.2.2.2.1 + (1 : Int))), ()))))))
 (e0_0 (())))
noncomputable def F154 (a0 : List (D158)) (a1 : (D158 → Option (Bool))) : Option (Int × Unit) :=
 (iter (F154_R2
 (fun y7 =>
 (some ((-(1 : Int)), ())))
 (fun y8 =>
 (some (y8.1, ())))) fuel (a0, a1, (((List.length a0) : Nat) : Int), (0 : Int), ()))
noncomputable def C154 : Fun := ⟨[(.ro (.slice Y158)), (.fn Y158 .bool)], [((.int .i64), .z)], fun z => F154 z.1 z.2.1⟩
noncomputable def E154 : Env := ⟨19, tyTab tys, oneTab ones, fnTab [], false, [], [(2, [0, 1, 7, 8], []), (3, [0, 1, 7, 8], []), (6, [0, 1, 7, 8], []), (7, [], []), (100000, [], []), (100001, [0, 1, 7, 8], []), (99999, [4], [])], none, [], []⟩
noncomputable def L154 : List (LoopS (Int × Unit)) := [⟨2, ⟨[(0, (.pv (.slice Y158))), (1, (.fnA Y158 .bool)), (7, (.pv (.int .i64))), (8, (.pv (.int .i64)))], []⟩, fun κ => F154_R2 (fun y => κ.exit 0 (SSh.mk' ⟨[], []⟩ y)) (fun y => κ.ret (SSh.mk' ⟨[(4, (.pv (.int .i64)))], []⟩ y))⟩]
theorem L154_2 : RoundEq E154 L154 L154[0] (nthLoop (codeOf Tryz.f154) 0) := fun κ N x => by kernel_rfl
theorem C154_ok : QuietOk Tryz.prog 154 C154 := tQ E154 L154 [nthLoop (codeOf Tryz.f154) 0] Tryz.func154 ty_ok .nil (.cons L154[0] (by kernel_rfl) L154_2 .nil)
noncomputable def F155 (a0 : D158) (a1 : List UInt8) : Option (Bool × Unit) :=
 (some ((a0.1 == a1), ()))
noncomputable def C155 : Fun := ⟨[(.ro Y158), (.rp .str)], [(.bool, .z)], fun z => F155 z.1 z.2.1⟩
noncomputable def E155 : Env := ⟨8, tyTab tys, oneTab ones, fnTab [], false, [], [(99999, [3], [])], none, [], []⟩
noncomputable def L155 : List (LoopS (Bool × Unit)) := []
theorem C155_ok : QuietOk Tryz.prog 155 C155 := tQ E155 L155 [] Tryz.func155 ty_ok .nil .nil
noncomputable def F118 (a0 : D55) (a1 : List UInt8) : Option (Int × Unit) :=
 (Option.bind (F154 a0.2.2.1 (fun (v3 : D158) => (Option.map (fun (v4 : (Bool × Unit)) => v4.1) (F155 v3 a1)))) fun y0 =>
 (some (y0.1, ())))
noncomputable def C118 : Fun := ⟨[(.ro Y55), (.ro .str)], [((.int .i64), .z)], fun z => F118 z.1 z.2.1⟩
noncomputable def E118 : Env := ⟨9, tyTab tys, oneTab ones, fnTab [(154, C154), (155, C155)], false, [], [(99999, [4], [])], none, [], []⟩
noncomputable def L118 : List (LoopS (Int × Unit)) := []
theorem C118_ok : QuietOk Tryz.prog 118 C118 := tQ E118 L118 [] Tryz.func118 ty_ok (.cons C154_ok (.cons C155_ok .nil)) .nil
noncomputable def F124 (a0 : Int) : Option (Bool × Unit) :=
 (Option.bind (F54 a0 (1 : Int) (10000 : Int)) fun y0 =>
 (some (y0.1, ())))
noncomputable def C124 : Fun := ⟨[(.ro (.int .i64))], [(.bool, .z)], fun z => F124 z.1⟩
noncomputable def E124 : Env := ⟨5, tyTab tys, oneTab ones, fnTab [(54, C54)], false, [], [(99999, [2], [])], none, [], []⟩
noncomputable def L124 : List (LoopS (Bool × Unit)) := []
theorem C124_ok : QuietOk Tryz.prog 124 C124 := tQ E124 L124 [] Tryz.func124 ty_ok (.cons C54_ok .nil) .nil
noncomputable def F227 (a0 : D209) (a1 : Int) : Option (List UInt8 × D209 × Unit) :=
 (cond (decide (a1 > (((List.length a0.1) : Nat) : Int)))
 (Option.bind (F241 [(0 : UInt8)] a1) fun y1 =>
 (some (y1.1, ((a0.1, (true, a0.2.2)), ()))))
 (gd (decide ((0 : Int) ≤ a1))
 (gd (decide (a1 ≤ (((List.length a0.1) : Nat) : Int)))
 (gd (decide ((((List.length a0.1) : Nat) : Int) ≤ (((List.length a0.1) : Nat) : Int)))
 (gd (decide ((0 : Int) ≤ a1))
 (gd (decide (a1 ≤ (((Int.toNat (((List.length a0.1) : Nat) : Int)) : Nat) : Int)))
 (some ((List.drop (Int.toNat (0 : Int)) (List.take (Int.toNat a1) a0.1)), (((List.drop (Int.toNat a1) (List.take (Int.toNat (((List.length a0.1) : Nat) : Int)) a0.1)), a0.2), ())))))))))
noncomputable def C227 : Fun := ⟨[(.io Y209 .z), (.ro (.int .i64))], [(.str, .z)], fun z => F227 z.1 z.2.1⟩
noncomputable def E227 : Env := ⟨34, tyTab tys, oneTab ones, fnTab [(241, C241)], false, [], [(4, [0, 1], [4]), (99999, [4], [4])], none, [], []⟩
noncomputable def L227 : List (LoopS (List UInt8 × D209 × Unit)) := []
theorem C227_ok : IoOk Tryz.prog 227 C227 := tI E227 L227 [] Tryz.func227 ty_ok (.cons C241_ok .nil) (fun p => .nil)
noncomputable def F242_R3 (e0_0 : Int × Unit → Option (Int × Unit)) (rec : Int × List (Int) × Int × Int × Unit → Option (Int × Unit)) (x2 : Int × List (Int) × Int × Int × Unit) : Option (Int × Unit) :=
 (cond (decide (x2.2.2.2.1 < x2.2.2.1))
 (gd (decide ((0 : Int) ≤ x2.2.2.2.1))
 (Option.bind x2.2.1[(Int.toNat x2.2.2.2.1)]? fun y4 =>
 (rec ((IntKind.wrap IntKind.i64 (((BitVec.toNat (HOr.hOr (BitVec.ofInt (IntKind.bits IntKind.i64) (IntKind.wrap IntKind.i64 (x2.1 * ((2 : Int) ^ (Min.min (Int.toNat (8 : Int)) (IntKind.bits IntKind.i64)))))) (BitVec.ofInt (IntKind.bits IntKind.i64) (IntKind.wrap IntKind.i64 y4)))) : Nat) : Int)), x2.2.1, x2.2.2.1, (IntKind.wrap IntKind.i64 (x2.2.2.2.1 + (1 : Int))), ()))))
 (e0_0 (x2.1, ())))
noncomputable def F242 (a0 : List (Int)) : Option (Int × Unit) :=
 (iter (F242_R3
 (fun y5 =>
 (some (y5.1, ())))) fuel ((0 : Int), a0, (((List.length a0) : Nat) : Int), (0 : Int), ()))
noncomputable def C242 : Fun := ⟨[(.ro (.slice (.int .u8)))], [((.int .i64), .z)], fun z => F242 z.1⟩
noncomputable def E242 : Env := ⟨19, tyTab tys, oneTab ones, fnTab [], false, [], [(3, [3, 6, 7, 8], []), (4, [3, 6, 7, 8], []), (7, [3], []), (100000, [3], []), (100001, [3, 6, 7, 8], []), (99999, [2], [])], none, [], []⟩
noncomputable def L242 : List (LoopS (Int × Unit)) := [⟨3, ⟨[(3, (.pv (.int .i64))), (6, (.pv (.slice (.int .u8)))), (7, (.pv (.int .i64))), (8, (.pv (.int .i64)))], []⟩, fun κ => F242_R3 (fun y => κ.exit 0 (SSh.mk' ⟨[(3, (.pv (.int .i64)))], []⟩ y))⟩]
theorem L242_3 : RoundEq E242 L242 L242[0] (nthLoop (codeOf Tryz.f242) 0) := fun κ N x => by kernel_rfl
theorem C242_ok : QuietOk Tryz.prog 242 C242 := tQ E242 L242 [nthLoop (codeOf Tryz.f242) 0] Tryz.func242 ty_ok .nil (.cons L242[0] (by kernel_rfl) L242_3 .nil)
noncomputable def F228 (a0 : D209) (a1 : Int) : Option (Int × D209 × Unit) :=
 (Option.bind (F227 a0 a1) fun y0 =>
 (Option.bind (F242 (List.map (fun (v4 : UInt8) => (((UInt8.toNat v4) : Nat) : Int)) y0.1)) fun y1 =>
 (some (y1.1, (y0.2.1, ())))))
noncomputable def C228 : Fun := ⟨[(.io Y209 .z), (.ro (.int .i64))], [((.int .i64), .z)], fun z => F228 z.1 z.2.1⟩
noncomputable def E228 : Env := ⟨10, tyTab tys, oneTab ones, fnTab [(227, C227), (242, C242)], false, [], [(99999, [4], [4])], none, [], []⟩
noncomputable def L228 : List (LoopS (Int × D209 × Unit)) := []
theorem C228_ok : IoOk Tryz.prog 228 C228 := tI E228 L228 [] Tryz.func228 ty_ok (.consIo C227_ok (.cons C242_ok .nil)) (fun p => .nil)
noncomputable def F229 (a0 : D209) : Option (D74 × D209 × Unit) :=
 (Option.bind (F228 a0 (1 : Int)) fun y0 =>
 (let j11 : D209 × D74 × D74 × Unit → Option (D74 × D209 × Unit) := fun (y12 : D209 × D74 × D74 × Unit) =>
 (some (y12.2.2.1, (y12.1, ())))
 (cond (y0.1 == (1 : Int))
 (Option.bind (F228 y0.2.1 (1 : Int)) fun y2 =>
 (j11 (y2.2.1, ((0 : Int), ((0 : Int), ([], ()))), (y0.1, (y2.1, ([], ()))), ())))
 (cond (y0.1 == (2 : Int))
 (Option.bind (F228 y0.2.1 (8 : Int)) fun y3 =>
 (j11 (y3.2.1, ((0 : Int), ((0 : Int), ([], ()))), (y0.1, ((IntKind.wrap IntKind.i64 (y3.1 - (4611686018427387904 : Int))), ([], ()))), ())))
 (cond (y0.1 == (3 : Int))
 (cond (y0.1 == (3 : Int))
 (Option.bind (F228 y0.2.1 (2 : Int)) fun y5 =>
 (Option.bind (F227 y5.2.1 y5.1) fun y6 =>
 (j11 (y6.2.1, ((0 : Int), ((0 : Int), ([], ()))), (y0.1, ((0 : Int), (y6.1, ()))), ()))))
 (j11 (y0.2.1, ((0 : Int), ((0 : Int), ([], ()))), (y0.1, ((0 : Int), ([], ()))), ())))
 (cond (y0.1 == (4 : Int))
 (cond (y0.1 == (4 : Int))
 (Option.bind (F228 y0.2.1 (2 : Int)) fun y7 =>
 (Option.bind (F227 y7.2.1 y7.1) fun y8 =>
 (j11 (y8.2.1, ((0 : Int), ((0 : Int), ([], ()))), (y0.1, ((0 : Int), (y8.1, ()))), ()))))
 (j11 (y0.2.1, ((0 : Int), ((0 : Int), ([], ()))), (y0.1, ((0 : Int), ([], ()))), ())))
 (cond (y0.1 == (5 : Int))
 (Option.bind (F228 y0.2.1 (2 : Int)) fun y9 =>
 (Option.bind (F227 y9.2.1 y9.1) fun y10 =>
 (j11 (y10.2.1, ((0 : Int), ((0 : Int), ([], ()))), (y0.1, ((0 : Int), (y10.1, ()))), ()))))
 (j11 (y0.2.1, ((0 : Int), ((0 : Int), ([], ()))), (y0.1, ((0 : Int), ([], ()))), ())))))))))
noncomputable def C229 : Fun := ⟨[(.io Y209 .z)], [(Y74, .z)], fun z => F229 z.1⟩
noncomputable def E229 : Env := ⟨30, tyTab tys, oneTab ones, fnTab [(227, C227), (228, C228)], false, [], [(11, [2, 3], [4]), (100000, [2, 3], [4]), (99999, [2], [4])], none, [], []⟩
noncomputable def L229 : List (LoopS (D74 × D209 × Unit)) := []
theorem C229_ok : IoOk Tryz.prog 229 C229 := tI E229 L229 [] Tryz.func229 ty_ok (.consIo C227_ok (.consIo C228_ok .nil)) (fun p => .nil)
noncomputable def F215_R2 (e0_0 : D209 × List (D268) × Unit → Option (List (D268) × Bool × Unit)) (rec : D209 × List (D268) × Unit → Option (List (D268) × Bool × Unit)) (x2 : D209 × List (D268) × Unit) : Option (List (D268) × Bool × Unit) :=
 (cond (!(x2.1.1 == []))
 (cond (!x2.1.2.1)
 (Option.bind (F228 x2.1 (1 : Int)) fun y4 =>
 (Option.bind (F227 y4.2.1 y4.1) fun y5 =>
 (Option.bind (F229 y5.2.1) fun y6 =>
 (gd (decide (((List.length x2.2.1) + (List.length [(y5.1, (y6.1, ()))])) ≤ lim))
 (rec (y6.2.1, (x2.2.1 ++ [(y5.1, (y6.1, ()))]), ()))))))
 (e0_0 (x2.1, x2.2.1, ())))
 (e0_0 (x2.1, x2.2.1, ())))
noncomputable def F215 (a0 : D74) : Option (List (D268) × Bool × Unit) :=
 (iter (F215_R2
 (fun y7 =>
 (some (y7.2.1, ((!y7.1.2.1), ()))))) fuel ((a0.2.2.1, (false, ())), [], ()))
noncomputable def C215 : Fun := ⟨[(.ro Y74)], [((.slice Y268), .z), (.bool, .z)], fun z => F215 z.1⟩
noncomputable def E215 : Env := ⟨39, tyTab tys, oneTab ones, fnTab [(227, C227), (228, C228), (229, C229)], false, [], [(2, [4, 5], []), (3, [4, 5], []), (4, [4, 5], []), (100000, [4, 5], []), (100001, [4, 5], []), (99999, [2, 3], [])], none, [], []⟩
noncomputable def L215 : List (LoopS (List (D268) × Bool × Unit)) := [⟨2, ⟨[(4, (.ptr 72 [])), (5, (.ref (.slice Y268) 80 []))], [(72, (.data true Y209 .z)), (80, (.data false (.slice Y268) (.own .z)))]⟩, fun κ => F215_R2 (fun y => κ.exit 0 (SSh.mk' ⟨[(4, (.ptr 72 [])), (5, (.ref (.slice Y268) 80 []))], [(72, (.data true Y209 .z)), (80, (.data false (.slice Y268) (.own .z)))]⟩ y))⟩]
theorem L215_2 : RoundEq E215 L215 L215[0] (nthLoop (codeOf Tryz.f215) 0) := fun κ N x => by kernel_rfl
theorem C215_ok : QuietOk Tryz.prog 215 C215 := tQ E215 L215 [nthLoop (codeOf Tryz.f215) 0] Tryz.func215 ty_ok (.consIo C227_ok (.consIo C228_ok (.consIo C229_ok .nil))) (.cons L215[0] (by kernel_rfl) L215_2 .nil)
end Go.V
