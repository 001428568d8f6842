/- What functions of the program compute, printed by a program of ours. No condition. -/
import Derived.Test.YtajpnkedfdcggaaGreatDoorWF4
namespace Go.V
set_option maxRecDepth 100000
set_option linter.unusedVariables false

/- 43: loop.example/g00380/laws.eqTxn -/
noncomputable def F43 (a0 : D71) (a1 : D71) : Option (Bool × Unit) :=
 (cond (a0.1 != a1.1)
 (some (false, ()))
 (cond (a0.2.1 != a1.2.1)
 (some (false, ()))
 (Option.bind (F69 a0.2.2.1 a1.2.2.1) fun y3 =>
 (cond (!y3.1)
 (some (false, ()))
 (Option.bind (F70 a0.2.2.2.1 a1.2.2.2.1) fun y5 =>
 (cond (!y5.1)
 (some (false, ()))
 (some (true, ()))))))))

noncomputable def C43 : Fun := ⟨[(.ro Y71), (.ro Y71)], [(.bool, .z)], fun z => F43 z.1 z.2.1⟩
noncomputable def E43 : Env := ⟨27, tyTab tys, oneTab ones, fnTab [(69, C69), (70, C70)], false, [], [(3, [2, 3], []), (5, [2, 3], []), (7, [2, 3], []), (9, [], []), (99999, [4], [])], none, []⟩
noncomputable def L43 : List (LoopS (Bool × Unit)) := []
theorem C43_ok : QuietOk Go.Proofs.Tryz.prog 43 C43 :=
  told (env := E43) (fn := Go.Proofs.Tryz.f43) (c := (codeOf Go.Proofs.Tryz.f43)) (tbl := L43) (ls := []) (vars := Go.Proofs.Tryz.f43.results.toList) Go.Proofs.Tryz.func43 (tysC_ok tys_ok rfl rfl) (Told.fnOk (.cons C69_ok (.cons C70_ok .nil)) rfl) (by kernel_rfl) (by decide) rfl (by decide) rfl rfl rfl (by kernel_rfl) .nil (by kernel_rfl)

/- 23: loop.example/g00380/laws.eqTxnS -/
noncomputable def F23_R4 (e0_0 : Unit → Option (Bool × Unit)) (er_1 : Bool × Unit → Option (Bool × Unit)) (rec : List (D71) × List (D71) × Int × Unit → Option (Bool × Unit)) (x3 : List (D71) × List (D71) × Int × Unit) : Option (Bool × Unit) :=
 (cond (decide (x3.2.2.1 < (((List.length x3.1) : Nat) : Int)))
 (gd (decide ((0 : Int) ≤ x3.2.2.1))
 (Option.bind x3.1[(Int.toNat x3.2.2.1)]? fun y6 =>
 (gd (decide ((0 : Int) ≤ x3.2.2.1))
 (Option.bind x3.2.1[(Int.toNat x3.2.2.1)]? fun y7 =>
 (Option.bind (F43 y6 y7) fun y8 =>
 (cond (!y8.1)
 (er_1 (false, ()))
 (rec (x3.1, x3.2.1, (IntKind.wrap IntKind.i64 (x3.2.2.1 + (1 : Int))), ()))))))))
 (e0_0 (())))

noncomputable def F23 (a0 : List (D71)) (a1 : List (D71)) : Option (Bool × Unit) :=
 (cond ((((List.length a0) : Nat) : Int) != (((List.length a1) : Nat) : Int))
 (some (false, ()))
 (iter (F23_R4
 (fun y9 =>
 (some (true, ())))
 (fun y10 =>
 (some (y10.1, ())))) fuel (a0, a1, (0 : Int), ())))

noncomputable def C23 : Fun := ⟨[(.ro (.slice Y71)), (.ro (.slice Y71))], [(.bool, .z)], fun z => F23 z.1 z.2.1⟩
noncomputable def E23 : Env := ⟨27, tyTab tys, oneTab ones, fnTab [(43, C43)], false, [], [(3, [0, 1], []), (4, [0, 1, 5], []), (5, [0, 1, 5], []), (6, [0, 1, 5], []), (8, [], []), (100000, [], []), (100001, [0, 1, 5], []), (99999, [4], [])], none, []⟩
noncomputable def L23 : List (LoopS (Bool × Unit)) := [⟨4, ⟨[(0, (.pv (.slice Y71))), (1, (.pv (.slice Y71))), (5, (.pv (.int .i64)))], []⟩, fun κ => F23_R4 (fun y => κ.exit 0 (SSh.mk' ⟨[], []⟩ y)) (fun y => κ.ret (SSh.mk' ⟨[(4, (.pv .bool))], []⟩ y))⟩]
theorem L23_4 : ∀ (κ : Kont (Bool × Unit)) (N : St → Option (Bool × Unit)) (x : (L23[0]).sh.den), execK E23 (lpOf L23) (nthLoop (codeOf Go.Proofs.Tryz.f23) 0) { κ with normal := fun σ => N (σ.keepAt (E23).hints 4) } ((L23[0]).sh.mk' x) = (L23[0]).R κ (fun x => N ((L23[0]).sh.mk' x)) x :=
  fun κ N x => by kernel_rfl
theorem C23_ok : QuietOk Go.Proofs.Tryz.prog 23 C23 :=
  told (env := E23) (fn := Go.Proofs.Tryz.f23) (c := (codeOf Go.Proofs.Tryz.f23)) (tbl := L23) (ls := [nthLoop (codeOf Go.Proofs.Tryz.f23) 0]) (vars := Go.Proofs.Tryz.f23.results.toList) Go.Proofs.Tryz.func23 (tysC_ok tys_ok rfl rfl) (Told.fnOk (.cons C43_ok .nil) rfl) (by kernel_rfl) (by decide) rfl (by decide) rfl rfl rfl (by kernel_rfl) (.cons L23[0] (by kernel_rfl) L23_4 .nil) (by kernel_rfl)

/- 107: loop.example/g00380/laws.eqChange -/
noncomputable def F107 (a0 : D145) (a1 : D145) : Option (Bool × Unit) :=
 (Option.bind (F106 a0.1 a1.1) fun y1 =>
 (cond (!y1.1)
 (some (false, ()))
 (Option.bind (F141 a0.2.1 a1.2.1) fun y3 =>
 (cond (!y3.1)
 (some (false, ()))
 (cond (!(a0.2.2.1 == a1.2.2.1))
 (some (false, ()))
 (some (true, ())))))))

noncomputable def C107 : Fun := ⟨[(.ro Y145), (.ro Y145)], [(.bool, .z)], fun z => F107 z.1 z.2.1⟩
noncomputable def E107 : Env := ⟨22, tyTab tys, oneTab ones, fnTab [(106, C106), (141, C141)], false, [], [(3, [2, 3], []), (5, [2, 3], []), (7, [], []), (99999, [4], [])], none, []⟩
noncomputable def L107 : List (LoopS (Bool × Unit)) := []
theorem C107_ok : QuietOk Go.Proofs.Tryz.prog 107 C107 :=
  told (env := E107) (fn := Go.Proofs.Tryz.f107) (c := (codeOf Go.Proofs.Tryz.f107)) (tbl := L107) (ls := []) (vars := Go.Proofs.Tryz.f107.results.toList) Go.Proofs.Tryz.func107 (tysC_ok tys_ok rfl rfl) (Told.fnOk (.cons C106_ok (.cons C141_ok .nil)) rfl) (by kernel_rfl) (by decide) rfl (by decide) rfl rfl rfl (by kernel_rfl) .nil (by kernel_rfl)

/- 71: loop.example/g00380/laws.eqChangeS -/
noncomputable def F71_R4 (e0_0 : Unit → Option (Bool × Unit)) (er_1 : Bool × Unit → Option (Bool × Unit)) (rec : List (D145) × List (D145) × Int × Unit → Option (Bool × Unit)) (x3 : List (D145) × List (D145) × Int × Unit) : Option (Bool × Unit) :=
 (cond (decide (x3.2.2.1 < (((List.length x3.1) : Nat) : Int)))
 (gd (decide ((0 : Int) ≤ x3.2.2.1))
 (Option.bind x3.1[(Int.toNat x3.2.2.1)]? fun y6 =>
 (gd (decide ((0 : Int) ≤ x3.2.2.1))
 (Option.bind x3.2.1[(Int.toNat x3.2.2.1)]? fun y7 =>
 (Option.bind (F107 y6 y7) fun y8 =>
 (cond (!y8.1)
 (er_1 (false, ()))
 (rec (x3.1, x3.2.1, (IntKind.wrap IntKind.i64 (x3.2.2.1 + (1 : Int))), ()))))))))
 (e0_0 (())))

noncomputable def F71 (a0 : List (D145)) (a1 : List (D145)) : Option (Bool × Unit) :=
 (cond ((((List.length a0) : Nat) : Int) != (((List.length a1) : Nat) : Int))
 (some (false, ()))
 (iter (F71_R4
 (fun y9 =>
 (some (true, ())))
 (fun y10 =>
 (some (y10.1, ())))) fuel (a0, a1, (0 : Int), ())))

noncomputable def C71 : Fun := ⟨[(.ro (.slice Y145)), (.ro (.slice Y145))], [(.bool, .z)], fun z => F71 z.1 z.2.1⟩
noncomputable def E71 : Env := ⟨27, tyTab tys, oneTab ones, fnTab [(107, C107)], false, [], [(3, [0, 1], []), (4, [0, 1, 5], []), (5, [0, 1, 5], []), (6, [0, 1, 5], []), (8, [], []), (100000, [], []), (100001, [0, 1, 5], []), (99999, [4], [])], none, []⟩
noncomputable def L71 : List (LoopS (Bool × Unit)) := [⟨4, ⟨[(0, (.pv (.slice Y145))), (1, (.pv (.slice Y145))), (5, (.pv (.int .i64)))], []⟩, fun κ => F71_R4 (fun y => κ.exit 0 (SSh.mk' ⟨[], []⟩ y)) (fun y => κ.ret (SSh.mk' ⟨[(4, (.pv .bool))], []⟩ y))⟩]
theorem L71_4 : ∀ (κ : Kont (Bool × Unit)) (N : St → Option (Bool × Unit)) (x : (L71[0]).sh.den), execK E71 (lpOf L71) (nthLoop (codeOf Go.Proofs.Tryz.f71) 0) { κ with normal := fun σ => N (σ.keepAt (E71).hints 4) } ((L71[0]).sh.mk' x) = (L71[0]).R κ (fun x => N ((L71[0]).sh.mk' x)) x :=
  fun κ N x => by kernel_rfl
theorem C71_ok : QuietOk Go.Proofs.Tryz.prog 71 C71 :=
  told (env := E71) (fn := Go.Proofs.Tryz.f71) (c := (codeOf Go.Proofs.Tryz.f71)) (tbl := L71) (ls := [nthLoop (codeOf Go.Proofs.Tryz.f71) 0]) (vars := Go.Proofs.Tryz.f71.results.toList) Go.Proofs.Tryz.func71 (tysC_ok tys_ok rfl rfl) (Told.fnOk (.cons C107_ok .nil) rfl) (by kernel_rfl) (by decide) rfl (by decide) rfl rfl rfl (by kernel_rfl) (.cons L71[0] (by kernel_rfl) L71_4 .nil) (by kernel_rfl)

/- 44: loop.example/g00380/laws.eqDone -/
noncomputable def F44 (a0 : D75) (a1 : D75) : Option (Bool × Unit) :=
 (cond (a0.1 != a1.1)
 (some (false, ()))
 (cond (a0.2.1 != a1.2.1)
 (some (false, ()))
 (Option.bind (F69 a0.2.2.1 a1.2.2.1) fun y3 =>
 (cond (!y3.1)
 (some (false, ()))
 (Option.bind (F71 a0.2.2.2.1 a1.2.2.2.1) fun y5 =>
 (cond (!y5.1)
 (some (false, ()))
 (cond (!(a0.2.2.2.2.1 == a1.2.2.2.2.1))
 (some (false, ()))
 (cond (!(a0.2.2.2.2.2.1 == a1.2.2.2.2.2.1))
 (some (false, ()))
 (some (true, ()))))))))))

noncomputable def C44 : Fun := ⟨[(.ro Y75), (.ro Y75)], [(.bool, .z)], fun z => F44 z.1 z.2.1⟩
noncomputable def E44 : Env := ⟨37, tyTab tys, oneTab ones, fnTab [(69, C69), (71, C71)], false, [], [(3, [2, 3], []), (5, [2, 3], []), (7, [2, 3], []), (9, [2, 3], []), (11, [2, 3], []), (13, [], []), (99999, [4], [])], none, []⟩
noncomputable def L44 : List (LoopS (Bool × Unit)) := []
theorem C44_ok : QuietOk Go.Proofs.Tryz.prog 44 C44 :=
  told (env := E44) (fn := Go.Proofs.Tryz.f44) (c := (codeOf Go.Proofs.Tryz.f44)) (tbl := L44) (ls := []) (vars := Go.Proofs.Tryz.f44.results.toList) Go.Proofs.Tryz.func44 (tysC_ok tys_ok rfl rfl) (Told.fnOk (.cons C69_ok (.cons C71_ok .nil)) rfl) (by kernel_rfl) (by decide) rfl (by decide) rfl rfl rfl (by kernel_rfl) .nil (by kernel_rfl)

/- 24: loop.example/g00380/laws.eqDoneS -/
noncomputable def F24_R4 (e0_0 : Unit → Option (Bool × Unit)) (er_1 : Bool × Unit → Option (Bool × Unit)) (rec : List (D75) × List (D75) × Int × Unit → Option (Bool × Unit)) (x3 : List (D75) × List (D75) × Int × Unit) : Option (Bool × Unit) :=
 (cond (decide (x3.2.2.1 < (((List.length x3.1) : Nat) : Int)))
 (gd (decide ((0 : Int) ≤ x3.2.2.1))
 (Option.bind x3.1[(Int.toNat x3.2.2.1)]? fun y6 =>
 (gd (decide ((0 : Int) ≤ x3.2.2.1))
 (Option.bind x3.2.1[(Int.toNat x3.2.2.1)]? fun y7 =>
 (Option.bind (F44 y6 y7) fun y8 =>
 (cond (!y8.1)
 (er_1 (false, ()))
 (rec (x3.1, x3.2.1, (IntKind.wrap IntKind.i64 (x3.2.2.1 + (1 : Int))), ()))))))))
 (e0_0 (())))

noncomputable def F24 (a0 : List (D75)) (a1 : List (D75)) : Option (Bool × Unit) :=
 (cond ((((List.length a0) : Nat) : Int) != (((List.length a1) : Nat) : Int))
 (some (false, ()))
 (iter (F24_R4
 (fun y9 =>
 (some (true, ())))
 (fun y10 =>
 (some (y10.1, ())))) fuel (a0, a1, (0 : Int), ())))

noncomputable def C24 : Fun := ⟨[(.ro (.slice Y75)), (.ro (.slice Y75))], [(.bool, .z)], fun z => F24 z.1 z.2.1⟩
noncomputable def E24 : Env := ⟨27, tyTab tys, oneTab ones, fnTab [(44, C44)], false, [], [(3, [0, 1], []), (4, [0, 1, 5], []), (5, [0, 1, 5], []), (6, [0, 1, 5], []), (8, [], []), (100000, [], []), (100001, [0, 1, 5], []), (99999, [4], [])], none, []⟩
noncomputable def L24 : List (LoopS (Bool × Unit)) := [⟨4, ⟨[(0, (.pv (.slice Y75))), (1, (.pv (.slice Y75))), (5, (.pv (.int .i64)))], []⟩, fun κ => F24_R4 (fun y => κ.exit 0 (SSh.mk' ⟨[], []⟩ y)) (fun y => κ.ret (SSh.mk' ⟨[(4, (.pv .bool))], []⟩ y))⟩]
theorem L24_4 : ∀ (κ : Kont (Bool × Unit)) (N : St → Option (Bool × Unit)) (x : (L24[0]).sh.den), execK E24 (lpOf L24) (nthLoop (codeOf Go.Proofs.Tryz.f24) 0) { κ with normal := fun σ => N (σ.keepAt (E24).hints 4) } ((L24[0]).sh.mk' x) = (L24[0]).R κ (fun x => N ((L24[0]).sh.mk' x)) x :=
  fun κ N x => by kernel_rfl
theorem C24_ok : QuietOk Go.Proofs.Tryz.prog 24 C24 :=
  told (env := E24) (fn := Go.Proofs.Tryz.f24) (c := (codeOf Go.Proofs.Tryz.f24)) (tbl := L24) (ls := [nthLoop (codeOf Go.Proofs.Tryz.f24) 0]) (vars := Go.Proofs.Tryz.f24.results.toList) Go.Proofs.Tryz.func24 (tysC_ok tys_ok rfl rfl) (Told.fnOk (.cons C44_ok .nil) rfl) (by kernel_rfl) (by decide) rfl (by decide) rfl rfl rfl (by kernel_rfl) (.cons L24[0] (by kernel_rfl) L24_4 .nil) (by kernel_rfl)

/- 9: loop.example/g00380/laws.eqStore -/
noncomputable def F9 (a0 : D25) (a1 : D25) : Option (Bool × Unit) :=
 (Option.bind (F22 a0.1 a1.1) fun y1 =>
 (cond (!y1.1)
 (some (false, ()))
 (Option.bind (F23 a0.2.1 a1.2.1) fun y3 =>
 (cond (!y3.1)
 (some (false, ()))
 (Option.bind (F24 a0.2.2.1 a1.2.2.1) fun y5 =>
 (cond (!y5.1)
 (some (false, ()))
 (cond (a0.2.2.2.1 != a1.2.2.2.1)
 (some (false, ()))
 (some (true, ())))))))))

noncomputable def C9 : Fun := ⟨[(.ro Y25), (.ro Y25)], [(.bool, .z)], fun z => F9 z.1 z.2.1⟩
noncomputable def E9 : Env := ⟨28, tyTab tys, oneTab ones, fnTab [(22, C22), (23, C23), (24, C24)], false, [], [(3, [2, 3], []), (5, [2, 3], []), (7, [2, 3], []), (9, [], []), (99999, [4], [])], none, []⟩
noncomputable def L9 : List (LoopS (Bool × Unit)) := []
theorem C9_ok : QuietOk Go.Proofs.Tryz.prog 9 C9 :=
  told (env := E9) (fn := Go.Proofs.Tryz.f9) (c := (codeOf Go.Proofs.Tryz.f9)) (tbl := L9) (ls := []) (vars := Go.Proofs.Tryz.f9.results.toList) Go.Proofs.Tryz.func9 (tysC_ok tys_ok rfl rfl) (Told.fnOk (.cons C22_ok (.cons C23_ok (.cons C24_ok .nil))) rfl) (by kernel_rfl) (by decide) rfl (by decide) rfl rfl rfl (by kernel_rfl) .nil (by kernel_rfl)

/- 3: loop.example/g00380/laws.FnExactOldestSnap -/
noncomputable def F3 (a0 : D25) : Option (Bool × Unit) :=
 (Option.bind (F5 a0 (1048576 : Int)) fun y0 =>
 (cond (decide (y0.1 < (0 : Int)))
 (some (true, ()))
 (Option.bind (F7 a0) fun y2 =>
 (Option.bind (F6 y2.1) fun y3 =>
 (Option.bind (F7 a0) fun y4 =>
 (Option.bind (F8 y4.1) fun y5 =>
 (cond (y5.1 != y3.1)
 (some (false, ()))
 (cond (y5.2.1 != y3.2.1)
 (some (false, ()))
 (Option.bind (F7 a0) fun y8 =>
 (Option.bind (F9 y4.1 y8.1) fun y9 =>
 (cond (!y9.1)
 (some (false, ()))
 (some (true, ())))))))))))))

noncomputable def C3 : Fun := ⟨[(.ro Y25)], [(.bool, .z)], fun z => F3 z.1⟩
noncomputable def E3 : Env := ⟨40, tyTab tys, oneTab ones, fnTab [(5, C5), (6, C6), (7, C7), (8, C8), (9, C9)], false, [], [(5, [1], []), (10, [1, 6], []), (12, [], []), (99999, [2], [])], none, []⟩
noncomputable def L3 : List (LoopS (Bool × Unit)) := []
theorem C3_ok : QuietOk Go.Proofs.Tryz.prog 3 C3 :=
  told (env := E3) (fn := Go.Proofs.Tryz.f3) (c := (codeOf Go.Proofs.Tryz.f3)) (tbl := L3) (ls := []) (vars := Go.Proofs.Tryz.f3.results.toList) Go.Proofs.Tryz.func3 (tysC_ok tys_ok rfl rfl) (Told.fnOk (.cons C5_ok (.cons C6_ok (.cons C7_ok (.cons C8_ok (.cons C9_ok .nil))))) rfl) (by kernel_rfl) (by decide) rfl (by decide) rfl rfl rfl (by kernel_rfl) .nil (by kernel_rfl)

/- 10: loop.example/g00380/spec.Settled -/
noncomputable def F10_R9 (e2_0 : Int × D25 × Unit → Option (Bool × Int × Unit)) (er_1 : Bool × Int × Unit → Option (Bool × Int × Unit)) (rec : Int × Int × D25 × Unit → Option (Bool × Int × Unit)) (x9 : Int × Int × D25 × Unit) : Option (Bool × Int × Unit) :=
 (gd (decide ((0 : Int) ≤ x9.1))
 (Option.bind x9.2.2.1.1[(Int.toNat x9.1)]? fun y11 =>
 (cond (decide (x9.2.1 < (((List.length y11.2.1) : Nat) : Int)))
 (gd (decide ((0 : Int) ≤ x9.1))
 (Option.bind x9.2.2.1.1[(Int.toNat x9.1)]? fun y13 =>
 (gd (decide ((0 : Int) ≤ x9.2.1))
 (Option.bind y13.2.1[(Int.toNat x9.2.1)]? fun y14 =>
 (cond ((((List.length y14.2.1) : Nat) : Int) != (1 : Int))
 (er_1 (false, (0 : Int), ()))
 (Option.bind y14.2.1[(Int.toNat (0 : Int))]? fun y15 =>
 (cond y15.2.1
 (er_1 (false, (0 : Int), ()))
 (rec (x9.1, (IntKind.wrap IntKind.i64 (x9.2.1 + (1 : Int))), x9.2.2.1, ())))))))))
 (e2_0 (x9.1, x9.2.2.1, ())))))

noncomputable def F10_R6 (e0_0 : D25 × Unit → Option (Bool × Int × Unit)) (er_1 : Bool × Int × Unit → Option (Bool × Int × Unit)) (rec : Int × D25 × Unit → Option (Bool × Int × Unit)) (x5 : Int × D25 × Unit) : Option (Bool × Int × Unit) :=
 (cond (decide (x5.1 < (((List.length x5.2.1.1) : Nat) : Int)))
 (iter (F10_R9
 (fun y16 =>
 (rec ((IntKind.wrap IntKind.i64 (y16.1 + (1 : Int))), y16.2.1, ())))
 (fun y17 =>
 (er_1 (y17.1, y17.2.1, ())))) fuel (x5.1, (0 : Int), x5.2.1, ()))
 (e0_0 (x5.2.1, ())))

noncomputable def F10 (a0 : D25) : Option (Bool × Int × Unit) :=
 (Option.bind (F15 a0) fun y1 =>
 (cond (!y1.1)
 (some (false, ((1 : Int), ())))
 (cond (decide ((((List.length a0.2.1) : Nat) : Int) > (0 : Int)))
 (some (true, ((0 : Int), ())))
 (iter (F10_R6
 (fun y18 =>
 (some (((((List.length y18.1.2.2.1) : Nat) : Int) == (0 : Int)), ((0 : Int), ()))))
 (fun y19 =>
 (some (y19.1, (y19.2.1, ()))))) fuel ((0 : Int), a0, ())))))

noncomputable def C10 : Fun := ⟨[(.ro Y25)], [(.bool, .z), ((.int .i64), .z)], fun z => F10 z.1⟩
noncomputable def E10 : Env := ⟨55, tyTab tys, oneTab ones, fnTab [(15, C15)], false, [], [(3, [1], []), (5, [1], []), (6, [1, 4], []), (7, [1, 4], []), (8, [1, 4], []), (9, [1, 4, 5], []), (10, [1, 4, 5], []), (11, [1, 4, 5], []), (14, [1], []), (100000, [1], []), (100001, [1, 4], []), (100002, [1, 4], []), (100003, [1, 4, 5], []), (99999, [2, 3], [])], none, []⟩
noncomputable def L10 : List (LoopS (Bool × Int × Unit)) := [⟨9, ⟨[(1, (.ptr 8 [])), (4, (.pv (.int .i64))), (5, (.pv (.int .i64)))], [(8, (.data true Y25 .z))]⟩, fun κ => F10_R9 (fun y => κ.exit 2 (SSh.mk' ⟨[(1, (.ptr 8 [])), (4, (.pv (.int .i64)))], [(8, (.data true Y25 .z))]⟩ y)) (fun y => κ.ret (SSh.mk' ⟨[(2, (.pv .bool)), (3, (.pv (.int .i64)))], []⟩ y))⟩,
  ⟨6, ⟨[(1, (.ptr 8 [])), (4, (.pv (.int .i64)))], [(8, (.data true Y25 .z))]⟩, fun κ => F10_R6 (fun y => κ.exit 0 (SSh.mk' ⟨[(1, (.ptr 8 []))], [(8, (.data true Y25 .z))]⟩ y)) (fun y => κ.ret (SSh.mk' ⟨[(2, (.pv .bool)), (3, (.pv (.int .i64)))], []⟩ y))⟩]
theorem L10_9 : ∀ (κ : Kont (Bool × Int × Unit)) (N : St → Option (Bool × Int × Unit)) (x : (L10[0]).sh.den), execK E10 (lpOf L10) (nthLoop (codeOf Go.Proofs.Tryz.f10) 1) { κ with normal := fun σ => N (σ.keepAt (E10).hints 9) } ((L10[0]).sh.mk' x) = (L10[0]).R κ (fun x => N ((L10[0]).sh.mk' x)) x :=
  fun κ N x => by kernel_rfl
theorem L10_6 : ∀ (κ : Kont (Bool × Int × Unit)) (N : St → Option (Bool × Int × Unit)) (x : (L10[1]).sh.den), execK E10 (lpOf L10) (nthLoop (codeOf Go.Proofs.Tryz.f10) 0) { κ with normal := fun σ => N (σ.keepAt (E10).hints 6) } ((L10[1]).sh.mk' x) = (L10[1]).R κ (fun x => N ((L10[1]).sh.mk' x)) x :=
  fun κ N x => by kernel_rfl
theorem C10_ok : QuietOk Go.Proofs.Tryz.prog 10 C10 :=
  told (env := E10) (fn := Go.Proofs.Tryz.f10) (c := (codeOf Go.Proofs.Tryz.f10)) (tbl := L10) (ls := [nthLoop (codeOf Go.Proofs.Tryz.f10) 0, nthLoop (codeOf Go.Proofs.Tryz.f10) 1]) (vars := Go.Proofs.Tryz.f10.results.toList) Go.Proofs.Tryz.func10 (tysC_ok tys_ok rfl rfl) (Told.fnOk (.cons C15_ok .nil) rfl) (by kernel_rfl) (by decide) rfl (by decide) rfl rfl rfl (by kernel_rfl) (.cons L10[1] (by kernel_rfl) L10_6 (.cons L10[0] (by kernel_rfl) L10_9 .nil)) (by kernel_rfl)

/- 11: loop.example/g00380/impl.Settled -/
noncomputable def F11_R9 (e2_0 : List (D54) × Int × Int × D25 × Unit → Option (Bool × Int × Unit)) (er_1 : Bool × Int × Unit → Option (Bool × Int × Unit)) (rec : List (D54) × Int × Int × List (D57) × Int × Int × D25 × Unit → Option (Bool × Int × Unit)) (x10 : List (D54) × Int × Int × List (D57) × Int × Int × D25 × Unit) : Option (Bool × Int × Unit) :=
 (cond (decide (x10.2.2.2.2.2.1 < x10.2.2.2.2.1))
 (gd (decide ((0 : Int) ≤ x10.2.2.2.2.2.1))
 (Option.bind x10.2.2.2.1[(Int.toNat x10.2.2.2.2.2.1)]? fun y13 =>
 (cond ((((List.length y13.2.1) : Nat) : Int) != (1 : Int))
 (er_1 (false, (0 : Int), ()))
 (Option.bind y13.2.1[(Int.toNat (0 : Int))]? fun y14 =>
 (cond y14.2.1
 (er_1 (false, (0 : Int), ()))
 (rec (x10.1, x10.2.1, x10.2.2.1, x10.2.2.2.1, x10.2.2.2.2.1, (IntKind.wrap IntKind.i64 (x10.2.2.2.2.2.1 + (1 : Int))), x10.2.2.2.2.2.2.1, ())))))))
 (e2_0 (x10.1, x10.2.1, x10.2.2.1, x10.2.2.2.2.2.2.1, ())))

noncomputable def F11_R6 (e0_0 : D25 × Unit → Option (Bool × Int × Unit)) (er_1 : Bool × Int × Unit → Option (Bool × Int × Unit)) (rec : List (D54) × Int × Int × D25 × Unit → Option (Bool × Int × Unit)) (x5 : List (D54) × Int × Int × D25 × Unit) : Option (Bool × Int × Unit) :=
 (cond (decide (x5.2.2.1 < x5.2.1))
 (gd (decide ((0 : Int) ≤ x5.2.2.1))
 (Option.bind x5.1[(Int.toNat x5.2.2.1)]? fun y8 =>
 (iter (F11_R9
 (fun y15 =>
 (rec (y15.1, y15.2.1, (IntKind.wrap IntKind.i64 (y15.2.2.1 + (1 : Int))), y15.2.2.2.1, ())))
 (fun y16 =>
 (er_1 (y16.1, y16.2.1, ())))) fuel (x5.1, x5.2.1, x5.2.2.1, y8.2.1, (((List.length y8.2.1) : Nat) : Int), (0 : Int), x5.2.2.2.1, ()))))
 (e0_0 (x5.2.2.2.1, ())))

noncomputable def F11 (a0 : D25) : Option (Bool × Int × Unit) :=
 (Option.bind (F20 a0) fun y1 =>
 (cond (!y1.1)
 (some (false, ((1 : Int), ())))
 (cond (decide ((((List.length a0.2.1) : Nat) : Int) > (0 : Int)))
 (some (true, ((0 : Int), ())))
 (iter (F11_R6
 (fun y17 =>
 (some (((((List.length y17.1.2.2.1) : Nat) : Int) == (0 : Int)), ((0 : Int), ()))))
 (fun y18 =>
 (some (y18.1, (y18.2.1, ()))))) fuel (a0.1, (((List.length a0.1) : Nat) : Int), (0 : Int), a0, ())))))

noncomputable def C11 : Fun := ⟨[(.ro Y25)], [(.bool, .z), ((.int .i64), .z)], fun z => F11 z.1⟩
noncomputable def E11 : Env := ⟨46, tyTab tys, oneTab ones, fnTab [(20, C20)], false, [], [(3, [1], []), (5, [1], []), (6, [1, 16, 17, 18], []), (7, [1, 16, 17, 18], []), (9, [1, 16, 17, 18, 23, 24, 25], []), (10, [1, 16, 17, 18, 23, 24, 25], []), (13, [1, 16, 17, 18, 23, 24, 25], []), (14, [1, 16, 17, 18], []), (15, [1], []), (100000, [1], []), (100001, [1, 16, 17, 18], []), (100002, [1, 16, 17, 18], []), (100003, [1, 16, 17, 18, 23, 24, 25], []), (99999, [2, 3], [])], none, []⟩
noncomputable def L11 : List (LoopS (Bool × Int × Unit)) := [⟨9, ⟨[(1, (.ptr 8 [])), (16, (.pv (.slice Y54))), (17, (.pv (.int .i64))), (18, (.pv (.int .i64))), (23, (.pv (.slice Y57))), (24, (.pv (.int .i64))), (25, (.pv (.int .i64)))], [(8, (.data true Y25 .z))]⟩, fun κ => F11_R9 (fun y => κ.exit 2 (SSh.mk' ⟨[(1, (.ptr 8 [])), (16, (.pv (.slice Y54))), (17, (.pv (.int .i64))), (18, (.pv (.int .i64)))], [(8, (.data true Y25 .z))]⟩ y)) (fun y => κ.ret (SSh.mk' ⟨[(2, (.pv .bool)), (3, (.pv (.int .i64)))], []⟩ y))⟩,
  ⟨6, ⟨[(1, (.ptr 8 [])), (16, (.pv (.slice Y54))), (17, (.pv (.int .i64))), (18, (.pv (.int .i64)))], [(8, (.data true Y25 .z))]⟩, fun κ => F11_R6 (fun y => κ.exit 0 (SSh.mk' ⟨[(1, (.ptr 8 []))], [(8, (.data true Y25 .z))]⟩ y)) (fun y => κ.ret (SSh.mk' ⟨[(2, (.pv .bool)), (3, (.pv (.int .i64)))], []⟩ y))⟩]
theorem L11_9 : ∀ (κ : Kont (Bool × Int × Unit)) (N : St → Option (Bool × Int × Unit)) (x : (L11[0]).sh.den), execK E11 (lpOf L11) (nthLoop (codeOf Go.Proofs.Tryz.f11) 1) { κ with normal := fun σ => N (σ.keepAt (E11).hints 9) } ((L11[0]).sh.mk' x) = (L11[0]).R κ (fun x => N ((L11[0]).sh.mk' x)) x :=
  fun κ N x => by kernel_rfl
theorem L11_6 : ∀ (κ : Kont (Bool × Int × Unit)) (N : St → Option (Bool × Int × Unit)) (x : (L11[1]).sh.den), execK E11 (lpOf L11) (nthLoop (codeOf Go.Proofs.Tryz.f11) 0) { κ with normal := fun σ => N (σ.keepAt (E11).hints 6) } ((L11[1]).sh.mk' x) = (L11[1]).R κ (fun x => N ((L11[1]).sh.mk' x)) x :=
  fun κ N x => by kernel_rfl
theorem C11_ok : QuietOk Go.Proofs.Tryz.prog 11 C11 :=
  told (env := E11) (fn := Go.Proofs.Tryz.f11) (c := (codeOf Go.Proofs.Tryz.f11)) (tbl := L11) (ls := [nthLoop (codeOf Go.Proofs.Tryz.f11) 0, nthLoop (codeOf Go.Proofs.Tryz.f11) 1]) (vars := Go.Proofs.Tryz.f11.results.toList) Go.Proofs.Tryz.func11 (tysC_ok tys_ok rfl rfl) (Told.fnOk (.cons C20_ok .nil) rfl) (by kernel_rfl) (by decide) rfl (by decide) rfl rfl rfl (by kernel_rfl) (.cons L11[1] (by kernel_rfl) L11_6 (.cons L11[0] (by kernel_rfl) L11_9 .nil)) (by kernel_rfl)

/- 4: loop.example/g00380/laws.FnExactSettled -/
noncomputable def F4 (a0 : D25) : Option (Bool × Unit) :=
 (Option.bind (F5 a0 (1048576 : Int)) fun y0 =>
 (cond (decide (y0.1 < (0 : Int)))
 (some (true, ()))
 (Option.bind (F7 a0) fun y2 =>
 (Option.bind (F10 y2.1) fun y3 =>
 (Option.bind (F7 a0) fun y4 =>
 (Option.bind (F11 y4.1) fun y5 =>
 (cond (!(y5.1 == y3.1))
 (some (false, ()))
 (cond (y5.2.1 != y3.2.1)
 (some (false, ()))
 (Option.bind (F7 a0) fun y8 =>
 (Option.bind (F9 y4.1 y8.1) fun y9 =>
 (cond (!y9.1)
 (some (false, ()))
 (some (true, ())))))))))))))

noncomputable def C4 : Fun := ⟨[(.ro Y25)], [(.bool, .z)], fun z => F4 z.1⟩
noncomputable def E4 : Env := ⟨40, tyTab tys, oneTab ones, fnTab [(5, C5), (7, C7), (9, C9), (10, C10), (11, C11)], false, [], [(5, [1], []), (10, [1, 6], []), (12, [], []), (99999, [2], [])], none, []⟩
noncomputable def L4 : List (LoopS (Bool × Unit)) := []
theorem C4_ok : QuietOk Go.Proofs.Tryz.prog 4 C4 :=
  told (env := E4) (fn := Go.Proofs.Tryz.f4) (c := (codeOf Go.Proofs.Tryz.f4)) (tbl := L4) (ls := []) (vars := Go.Proofs.Tryz.f4.results.toList) Go.Proofs.Tryz.func4 (tysC_ok tys_ok rfl rfl) (Told.fnOk (.cons C5_ok (.cons C7_ok (.cons C9_ok (.cons C10_ok (.cons C11_ok .nil))))) rfl) (by kernel_rfl) (by decide) rfl (by decide) rfl rfl rfl (by kernel_rfl) .nil (by kernel_rfl)

/- 232: math/bits.Mul32 -/
noncomputable def F232 (a0 : Int) (a1 : Int) : Option (Int × Int × Unit) :=
 (some ((IntKind.wrap IntKind.u32 (Int.fdiv (IntKind.wrap IntKind.u64 ((IntKind.wrap IntKind.u64 a0) * (IntKind.wrap IntKind.u64 a1))) ((2 : Int) ^ (Min.min (Int.toNat (32 : Int)) (IntKind.bits IntKind.u64))))), ((IntKind.wrap IntKind.u32 (IntKind.wrap IntKind.u64 ((IntKind.wrap IntKind.u64 a0) * (IntKind.wrap IntKind.u64 a1)))), ())))

noncomputable def C232 : Fun := ⟨[(.ro (.int .u32)), (.ro (.int .u32))], [((.int .u32), .z), ((.int .u32), .z)], fun z => F232 z.1 z.2.1⟩
noncomputable def E232 : Env := ⟨17, tyTab tys, oneTab ones, fnTab [], false, [], [(99999, [4, 5], [])], none, []⟩
noncomputable def L232 : List (LoopS (Int × Int × Unit)) := []
theorem C232_ok : QuietOk Go.Proofs.Tryz.prog 232 C232 :=
  told (env := E232) (fn := Go.Proofs.Tryz.f232) (c := (codeOf Go.Proofs.Tryz.f232)) (tbl := L232) (ls := []) (vars := Go.Proofs.Tryz.f232.results.toList) Go.Proofs.Tryz.func232 (tysC_ok tys_ok rfl rfl) (Told.fnOk .nil rfl) (by kernel_rfl) (by decide) rfl (by decide) rfl rfl rfl (by kernel_rfl) .nil (by kernel_rfl)

/- 233: math/bits.Mul64 -/
noncomputable def F233 (a0 : Int) (a1 : Int) : Option (Int × Int × Unit) :=
 (some ((IntKind.wrap IntKind.u64 ((IntKind.wrap IntKind.u64 ((IntKind.wrap IntKind.u64 ((Int.fdiv a0 ((2 : Int) ^ (Min.min (Int.toNat (32 : Int)) (IntKind.bits IntKind.u64)))) * (Int.fdiv a1 ((2 : Int) ^ (Min.min (Int.toNat (32 : Int)) (IntKind.bits IntKind.u64)))))) + (Int.fdiv (IntKind.wrap IntKind.u64 ((IntKind.wrap IntKind.u64 ((Int.fdiv a0 ((2 : Int) ^ (Min.min (Int.toNat (32 : Int)) (IntKind.bits IntKind.u64)))) * (IntKind.wrap IntKind.u64 (((BitVec.toNat (HAnd.hAnd (BitVec.ofInt (IntKind.bits IntKind.u64) a1) (BitVec.ofInt (IntKind.bits IntKind.u64) (4294967295 : Int)))) : Nat) : Int)))) + (Int.fdiv (IntKind.wrap IntKind.u64 ((IntKind.wrap IntKind.u64 (((BitVec.toNat (HAnd.hAnd (BitVec.ofInt (IntKind.bits IntKind.u64) a0) (BitVec.ofInt (IntKind.bits IntKind.u64) (4294967295 : Int)))) : Nat) : Int)) * (IntKind.wrap IntKind.u64 (((BitVec.toNat (HAnd.hAnd (BitVec.ofInt (IntKind.bits IntKind.u64) a1) (BitVec.ofInt (IntKind.bits IntKind.u64) (4294967295 : Int)))) : Nat) : Int)))) ((2 : Int) ^ (Min.min (Int.toNat (32 : Int)) (IntKind.bits IntKind.u64)))))) ((2 : Int) ^ (Min.min (Int.toNat (32 : Int)) (IntKind.bits IntKind.u64)))))) + (Int.fdiv (IntKind.wrap IntKind.u64 ((IntKind.wrap IntKind.u64 (((BitVec.toNat (HAnd.hAnd (BitVec.ofInt (IntKind.bits IntKind.u64) (IntKind.wrap IntKind.u64 ((IntKind.wrap IntKind.u64 ((Int.fdiv a0 ((2 : Int) ^ (Min.min (Int.toNat (32 : Int)) (IntKind.bits IntKind.u64)))) * (IntKind.wrap IntKind.u64 (((BitVec.toNat (HAnd.hAnd (BitVec.ofInt (IntKind.bits IntKind.u64) a1) (BitVec.ofInt (IntKind.bits IntKind.u64) (4294967295 : Int)))) : Nat) : Int)))) + (Int.fdiv (IntKind.wrap IntKind.u64 ((IntKind.wrap IntKind.u64 (((BitVec.toNat (HAnd.hAnd (BitVec.ofInt (IntKind.bits IntKind.u64) a0) (BitVec.ofInt (IntKind.bits IntKind.u64) (4294967295 : Int)))) : Nat) : Int)) * (IntKind.wrap IntKind.u64 (((BitVec.toNat (HAnd.hAnd (BitVec.ofInt (IntKind.bits IntKind.u64) a1) (BitVec.ofInt (IntKind.bits IntKind.u64) (4294967295 : Int)))) : Nat) : Int)))) ((2 : Int) ^ (Min.min (Int.toNat (32 : Int)) (IntKind.bits IntKind.u64))))))) (BitVec.ofInt (IntKind.bits IntKind.u64) (4294967295 : Int)))) : Nat) : Int)) + (IntKind.wrap IntKind.u64 ((IntKind.wrap IntKind.u64 (((BitVec.toNat (HAnd.hAnd (BitVec.ofInt (IntKind.bits IntKind.u64) a0) (BitVec.ofInt (IntKind.bits IntKind.u64) (4294967295 : Int)))) : Nat) : Int)) * (Int.fdiv a1 ((2 : Int) ^ (Min.min (Int.toNat (32 : Int)) (IntKind.bits IntKind.u64)))))))) ((2 : Int) ^ (Min.min (Int.toNat (32 : Int)) (IntKind.bits IntKind.u64)))))), ((IntKind.wrap IntKind.u64 (a0 * a1)), ())))

noncomputable def C233 : Fun := ⟨[(.ro (.int .u64)), (.ro (.int .u64))], [((.int .u64), .z), ((.int .u64), .z)], fun z => F233 z.1 z.2.1⟩
noncomputable def E233 : Env := ⟨51, tyTab tys, oneTab ones, fnTab [], false, [], [(99999, [4, 5], [])], none, []⟩
noncomputable def L233 : List (LoopS (Int × Int × Unit)) := []
theorem C233_ok : QuietOk Go.Proofs.Tryz.prog 233 C233 :=
  told (env := E233) (fn := Go.Proofs.Tryz.f233) (c := (codeOf Go.Proofs.Tryz.f233)) (tbl := L233) (ls := []) (vars := Go.Proofs.Tryz.f233.results.toList) Go.Proofs.Tryz.func233 (tysC_ok tys_ok rfl rfl) (Told.fnOk .nil rfl) (by kernel_rfl) (by decide) rfl (by decide) rfl rfl rfl (by kernel_rfl) .nil (by kernel_rfl)

/- 224: math/bits.Mul -/
noncomputable def F224 (a0 : Int) (a1 : Int) : Option (Int × Int × Unit) :=
 (Option.bind (F233 a0 a1) fun y1 =>
 (some (y1.1, (y1.2.1, ()))))

noncomputable def C224 : Fun := ⟨[(.ro (.int .u64)), (.ro (.int .u64))], [((.int .u64), .z), ((.int .u64), .z)], fun z => F224 z.1 z.2.1⟩
noncomputable def E224 : Env := ⟨30, tyTab tys, oneTab ones, fnTab [(232, C232), (233, C233)], false, [], [(3, [0, 1], []), (99999, [4, 5], [])], none, []⟩
noncomputable def L224 : List (LoopS (Int × Int × Unit)) := []
theorem C224_ok : QuietOk Go.Proofs.Tryz.prog 224 C224 :=
  told (env := E224) (fn := Go.Proofs.Tryz.f224) (c := (codeOf Go.Proofs.Tryz.f224)) (tbl := L224) (ls := []) (vars := Go.Proofs.Tryz.f224.results.toList) Go.Proofs.Tryz.func224 (tysC_ok tys_ok rfl rfl) (Told.fnOk (.cons C232_ok (.cons C233_ok .nil)) rfl) (by kernel_rfl) (by decide) rfl (by decide) rfl rfl rfl (by kernel_rfl) .nil (by kernel_rfl)

/- 234: internal/stringslite.HasPrefix -/
noncomputable def F234 (a0 : List UInt8) (a1 : List UInt8) : Option (Bool × Unit) :=
 (cond (decide ((((List.length a0) : Nat) : Int) ≥ (((List.length a1) : Nat) : Int)))
 (gd (decide ((((List.length a1) : Nat) : Int) ≤ (((List.length a0) : Nat) : Int)))
 (some (((List.drop (Int.toNat (0 : Int)) (List.take (Int.toNat (((List.length a1) : Nat) : Int)) a0)) == a1), ())))
 (some (false, ())))

noncomputable def C234 : Fun := ⟨[(.ro .str), (.ro .str)], [(.bool, .z)], fun z => F234 z.1 z.2.1⟩
noncomputable def E234 : Env := ⟨18, tyTab tys, oneTab ones, fnTab [], false, [], [(99999, [4], [])], none, []⟩
noncomputable def L234 : List (LoopS (Bool × Unit)) := []
theorem C234_ok : QuietOk Go.Proofs.Tryz.prog 234 C234 :=
  told (env := E234) (fn := Go.Proofs.Tryz.f234) (c := (codeOf Go.Proofs.Tryz.f234)) (tbl := L234) (ls := []) (vars := Go.Proofs.Tryz.f234.results.toList) Go.Proofs.Tryz.func234 (tysC_ok tys_ok rfl rfl) (Told.fnOk .nil rfl) (by kernel_rfl) (by decide) rfl (by decide) rfl rfl rfl (by kernel_rfl) .nil (by kernel_rfl)

/- 225: strings.HasPrefix -/
noncomputable def F225 (a0 : List UInt8) (a1 : List UInt8) : Option (Bool × Unit) :=
 (Option.bind (F234 a0 a1) fun y0 =>
 (some (y0.1, ())))

noncomputable def C225 : Fun := ⟨[(.ro .str), (.ro .str)], [(.bool, .z)], fun z => F225 z.1 z.2.1⟩
noncomputable def E225 : Env := ⟨8, tyTab tys, oneTab ones, fnTab [(234, C234)], false, [], [(99999, [4], [])], none, []⟩
noncomputable def L225 : List (LoopS (Bool × Unit)) := []
theorem C225_ok : QuietOk Go.Proofs.Tryz.prog 225 C225 :=
  told (env := E225) (fn := Go.Proofs.Tryz.f225) (c := (codeOf Go.Proofs.Tryz.f225)) (tbl := L225) (ls := []) (vars := Go.Proofs.Tryz.f225.results.toList) Go.Proofs.Tryz.func225 (tysC_ok tys_ok rfl rfl) (Told.fnOk (.cons C234_ok .nil) rfl) (by kernel_rfl) (by decide) rfl (by decide) rfl rfl rfl (by kernel_rfl) .nil (by kernel_rfl)

/- 231: internal/bytealg.hashStr[string] -/
noncomputable def F231_R3 (e0_0 : List UInt8 × Int × Unit → Option (Int × Int × Unit)) (rec : List UInt8 × Int × Int × Unit → Option (Int × Int × Unit)) (x2 : List UInt8 × Int × Int × Unit) : Option (Int × Int × Unit) :=
 (cond (decide (x2.2.2.1 < (((List.length x2.1) : Nat) : Int)))
 (gd (decide ((0 : Int) ≤ x2.2.2.1))
 (Option.bind x2.1[(Int.toNat x2.2.2.1)]? fun y4 =>
 (rec (x2.1, (IntKind.wrap IntKind.u32 ((IntKind.wrap IntKind.u32 (x2.2.1 * (16777619 : Int))) + (IntKind.wrap IntKind.u32 (((UInt8.toNat y4) : Nat) : Int)))), (IntKind.wrap IntKind.i64 (x2.2.2.1 + (1 : Int))), ()))))
 (e0_0 (x2.1, x2.2.1, ())))

noncomputable def F231_R8 (e2_0 : Int × Int × Unit → Option (Int × Int × Unit)) (rec : Int × Int × Int × Int × Unit → Option (Int × Int × Unit)) (x8 : Int × Int × Int × Int × Unit) : Option (Int × Int × Unit) :=
 (cond (decide (x8.2.2.2.1 > (0 : Int)))
 (let j12 : Int × Int × Int × Int × Unit → Option (Int × Int × Unit) := fun (y13 : Int × Int × Int × Int × Unit) =>
 (rec (y13.1, y13.2.1, (IntKind.wrap IntKind.u32 (y13.2.2.1 * y13.2.2.1)), (Int.fdiv y13.2.2.2.1 ((2 : Int) ^ (Min.min (Int.toNat (1 : Int)) (IntKind.bits IntKind.i64)))), ()))
 (cond ((IntKind.wrap IntKind.i64 (((BitVec.toNat (HAnd.hAnd (BitVec.ofInt (IntKind.bits IntKind.i64) x8.2.2.2.1) (BitVec.ofInt (IntKind.bits IntKind.i64) (1 : Int)))) : Nat) : Int)) != (0 : Int))
 (j12 (x8.1, (IntKind.wrap IntKind.u32 (x8.2.1 * x8.2.2.1)), x8.2.2.1, x8.2.2.2.1, ()))
 (j12 (x8.1, x8.2.1, x8.2.2.1, x8.2.2.2.1, ()))))
 (e2_0 (x8.1, x8.2.1, ())))

noncomputable def F231 (a0 : List UInt8) : Option (Int × Int × Unit) :=
 (iter (F231_R3
 (fun y5 =>
 (iter (F231_R8
 (fun y14 =>
 (some (y14.1, (y14.2.1, ()))))) fuel (y5.2.1, (1 : Int), (16777619 : Int), (((List.length y5.1) : Nat) : Int), ())))) fuel (a0, (0 : Int), (0 : Int), ()))

noncomputable def C231 : Fun := ⟨[(.ro .str)], [((.int .u32), .z), ((.int .u32), .z)], fun z => F231 z.1⟩
noncomputable def E231 : Env := ⟨39, tyTab tys, oneTab ones, fnTab [], false, [], [(3, [0, 4, 5], []), (5, [0, 4, 5], []), (6, [0, 4], []), (8, [4, 6, 7, 8], []), (9, [4, 6, 7, 8], []), (10, [4, 6, 7, 8], []), (12, [4, 6, 7, 8], []), (13, [4, 6], []), (100000, [0, 4], []), (100001, [0, 4, 5], []), (100002, [4, 6], []), (100003, [4, 6, 7, 8], []), (99999, [2, 3], [])], none, []⟩
noncomputable def L231 : List (LoopS (Int × Int × Unit)) := [⟨3, ⟨[(0, (.pv .str)), (4, (.pv (.int .u32))), (5, (.pv (.int .i64)))], []⟩, fun κ => F231_R3 (fun y => κ.exit 0 (SSh.mk' ⟨[(0, (.pv .str)), (4, (.pv (.int .u32)))], []⟩ y))⟩,
  ⟨8, ⟨[(4, (.pv (.int .u32))), (6, (.pv (.int .u32))), (7, (.pv (.int .u32))), (8, (.pv (.int .i64)))], []⟩, fun κ => F231_R8 (fun y => κ.exit 2 (SSh.mk' ⟨[(4, (.pv (.int .u32))), (6, (.pv (.int .u32)))], []⟩ y))⟩]
theorem L231_8 : ∀ (κ : Kont (Int × Int × Unit)) (N : St → Option (Int × Int × Unit)) (x : (L231[1]).sh.den), execK E231 (lpOf L231) (nthLoop (codeOf Go.Proofs.Tryz.f231) 1) { κ with normal := fun σ => N (σ.keepAt (E231).hints 8) } ((L231[1]).sh.mk' x) = (L231[1]).R κ (fun x => N ((L231[1]).sh.mk' x)) x :=
  fun κ N x => by kernel_rfl
theorem L231_3 : ∀ (κ : Kont (Int × Int × Unit)) (N : St → Option (Int × Int × Unit)) (x : (L231[0]).sh.den), execK E231 (lpOf L231) (nthLoop (codeOf Go.Proofs.Tryz.f231) 0) { κ with normal := fun σ => N (σ.keepAt (E231).hints 3) } ((L231[0]).sh.mk' x) = (L231[0]).R κ (fun x => N ((L231[0]).sh.mk' x)) x :=
  fun κ N x => by kernel_rfl
theorem C231_ok : QuietOk Go.Proofs.Tryz.prog 231 C231 :=
  told (env := E231) (fn := Go.Proofs.Tryz.f231) (c := (codeOf Go.Proofs.Tryz.f231)) (tbl := L231) (ls := [nthLoop (codeOf Go.Proofs.Tryz.f231) 0, nthLoop (codeOf Go.Proofs.Tryz.f231) 1]) (vars := Go.Proofs.Tryz.f231.results.toList) Go.Proofs.Tryz.func231 (tysC_ok tys_ok rfl rfl) (Told.fnOk .nil rfl) (by kernel_rfl) (by decide) rfl (by decide) rfl rfl rfl (by kernel_rfl) (.cons L231[0] (by kernel_rfl) L231_3 (.cons L231[1] (by kernel_rfl) L231_8 .nil)) (by kernel_rfl)

end Go.V
