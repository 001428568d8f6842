/- What functions of the program compute, printed by a program of ours. No condition. -/
import Derived.Test.YtajpnkedfdcggaaGreatDoorWF1
namespace Go.V
set_option maxRecDepth 100000
set_option linter.unusedVariables false

/- 85: loop.example/g00380/laws.toWrite -/
noncomputable def F85 (a0 : D86) : Option (D86 × Unit) :=
 (Option.bind (F121 a0.2.2.2.1) fun y0 =>
 (some ((a0.1, (a0.2.1, (a0.2.2.1, (y0.1, ())))), ())))

noncomputable def C85 : Fun := ⟨[(.ro Y86)], [(Y86, .z)], fun z => F85 z.1⟩
noncomputable def E85 : Env := ⟨18, tyTab tys, oneTab ones, fnTab [(121, C121)], false, [], [(99999, [2], [])], none, []⟩
noncomputable def L85 : List (LoopS (D86 × Unit)) := []
theorem C85_ok : QuietOk Go.Proofs.Tryz.prog 85 C85 :=
  told (env := E85) (fn := Go.Proofs.Tryz.f85) (c := (codeOf Go.Proofs.Tryz.f85)) (tbl := L85) (ls := []) (vars := Go.Proofs.Tryz.f85.results.toList) Go.Proofs.Tryz.func85 (tysC_ok tys_ok rfl rfl) (Told.fnOk (.cons C121_ok .nil) rfl) (by kernel_rfl) (by decide) rfl (by decide) rfl rfl rfl (by kernel_rfl) .nil (by kernel_rfl)

/- 58: loop.example/g00380/laws.toWriteS -/
noncomputable def F58_R3 (e0_0 : List (D86) × Unit → Option (List (D86) × Unit)) (rec : List (D86) × Int × List (D86) × Unit → Option (List (D86) × Unit)) (x2 : List (D86) × Int × List (D86) × Unit) : Option (List (D86) × Unit) :=
 (cond (decide (x2.2.1 < (((List.length x2.1) : Nat) : Int)))
 (gd (decide ((0 : Int) ≤ x2.2.1))
 (Option.bind x2.1[(Int.toNat x2.2.1)]? fun y4 =>
 (Option.bind (F85 y4) fun y5 =>
 (gd (decide ((0 : Int) ≤ x2.2.1))
 (gd (decide (x2.2.1 < (((List.length x2.2.2.1) : Nat) : Int)))
 (Option.bind x2.2.2.1[(Int.toNat x2.2.1)]? fun y6 =>
 (rec (x2.1, (IntKind.wrap IntKind.i64 (x2.2.1 + (1 : Int))), (List.set x2.2.2.1 (Int.toNat x2.2.1) y5.1), ()))))))))
 (e0_0 (x2.2.2.1, ())))

noncomputable def F58 (a0 : List (D86)) : Option (List (D86) × Unit) :=
 (gd (decide ((((List.length a0) : Nat) : Int) ≤ ((4294967296 : Nat) : Int)))
 (gd (decide ((((List.length a0) : Nat) : Int) ≤ (((Int.toNat (((List.length a0) : Nat) : Int)) : Nat) : Int)))
 (iter (F58_R3
 (fun y7 =>
 (some (y7.1, ())))) fuel (a0, (0 : Int), (List.replicate (Int.toNat (((List.length a0) : Nat) : Int)) ([], ((0 : Int), (false, (((0 : Int), ((0 : Int), ([], ()))), ()))))), ()))))

noncomputable def C58 : Fun := ⟨[(.ro (.slice Y86))], [((.slice Y86), .z)], fun z => F58 z.1⟩
noncomputable def E58 : Env := ⟨23, tyTab tys, oneTab ones, fnTab [(85, C85)], false, [], [(3, [0, 3, 4], []), (5, [0, 3, 4], []), (6, [3], []), (100000, [3], []), (100001, [0, 3, 4], []), (99999, [2], [])], none, []⟩
noncomputable def L58 : List (LoopS (List (D86) × Unit)) := [⟨3, ⟨[(0, (.pv (.slice Y86))), (3, (.ref (.slice Y86) 56 [])), (4, (.pv (.int .i64)))], [(56, (.data false (.slice Y86) (.own .z)))]⟩, fun κ => F58_R3 (fun y => κ.exit 0 (SSh.mk' ⟨[(3, (.ref (.slice Y86) 56 []))], [(56, (.data false (.slice Y86) (.own .z)))]⟩ y))⟩]
theorem L58_3 : ∀ (κ : Kont (List (D86) × Unit)) (N : St → Option (List (D86) × Unit)) (x : (L58[0]).sh.den), execK E58 (lpOf L58) (nthLoop (codeOf Go.Proofs.Tryz.f58) 0) { κ with normal := fun σ => N (σ.keepAt (E58).hints 3) } ((L58[0]).sh.mk' x) = (L58[0]).R κ (fun x => N ((L58[0]).sh.mk' x)) x :=
  fun κ N x => by kernel_rfl
theorem C58_ok : QuietOk Go.Proofs.Tryz.prog 58 C58 :=
  told (env := E58) (fn := Go.Proofs.Tryz.f58) (c := (codeOf Go.Proofs.Tryz.f58)) (tbl := L58) (ls := [nthLoop (codeOf Go.Proofs.Tryz.f58) 0]) (vars := Go.Proofs.Tryz.f58.results.toList) Go.Proofs.Tryz.func58 (tysC_ok tys_ok rfl rfl) (Told.fnOk (.cons C85_ok .nil) rfl) (by kernel_rfl) (by decide) rfl (by decide) rfl rfl rfl (by kernel_rfl) (.cons L58[0] (by kernel_rfl) L58_3 .nil) (by kernel_rfl)

/- 34: loop.example/g00380/laws.toTxn -/
noncomputable def F34 (a0 : D71) : Option (D71 × Unit) :=
 (Option.bind (F57 a0.2.2.1) fun y0 =>
 (Option.bind (F58 a0.2.2.2.1) fun y1 =>
 (some ((a0.1, (a0.2.1, (y0.1, (y1.1, ())))), ()))))

noncomputable def C34 : Fun := ⟨[(.ro Y71)], [(Y71, .z)], fun z => F34 z.1⟩
noncomputable def E34 : Env := ⟨19, tyTab tys, oneTab ones, fnTab [(57, C57), (58, C58)], false, [], [(99999, [2], [])], none, []⟩
noncomputable def L34 : List (LoopS (D71 × Unit)) := []
theorem C34_ok : QuietOk Go.Proofs.Tryz.prog 34 C34 :=
  told (env := E34) (fn := Go.Proofs.Tryz.f34) (c := (codeOf Go.Proofs.Tryz.f34)) (tbl := L34) (ls := []) (vars := Go.Proofs.Tryz.f34.results.toList) Go.Proofs.Tryz.func34 (tysC_ok tys_ok rfl rfl) (Told.fnOk (.cons C57_ok (.cons C58_ok .nil)) rfl) (by kernel_rfl) (by decide) rfl (by decide) rfl rfl rfl (by kernel_rfl) .nil (by kernel_rfl)

/- 18: loop.example/g00380/laws.toTxnS -/
noncomputable def F18_R3 (e0_0 : List (D71) × Unit → Option (List (D71) × Unit)) (rec : List (D71) × Int × List (D71) × Unit → Option (List (D71) × Unit)) (x2 : List (D71) × Int × List (D71) × Unit) : Option (List (D71) × Unit) :=
 (cond (decide (x2.2.1 < (((List.length x2.1) : Nat) : Int)))
 (gd (decide ((0 : Int) ≤ x2.2.1))
 (Option.bind x2.1[(Int.toNat x2.2.1)]? fun y4 =>
 (Option.bind (F34 y4) fun y5 =>
 (gd (decide ((0 : Int) ≤ x2.2.1))
 (gd (decide (x2.2.1 < (((List.length x2.2.2.1) : Nat) : Int)))
 (Option.bind x2.2.2.1[(Int.toNat x2.2.1)]? fun y6 =>
 (rec (x2.1, (IntKind.wrap IntKind.i64 (x2.2.1 + (1 : Int))), (List.set x2.2.2.1 (Int.toNat x2.2.1) y5.1), ()))))))))
 (e0_0 (x2.2.2.1, ())))

noncomputable def F18 (a0 : List (D71)) : Option (List (D71) × Unit) :=
 (gd (decide ((((List.length a0) : Nat) : Int) ≤ ((4294967296 : Nat) : Int)))
 (gd (decide ((((List.length a0) : Nat) : Int) ≤ (((Int.toNat (((List.length a0) : Nat) : Int)) : Nat) : Int)))
 (iter (F18_R3
 (fun y7 =>
 (some (y7.1, ())))) fuel (a0, (0 : Int), (List.replicate (Int.toNat (((List.length a0) : Nat) : Int)) ((0 : Int), ((0 : Int), ([], ([], ()))))), ()))))

noncomputable def C18 : Fun := ⟨[(.ro (.slice Y71))], [((.slice Y71), .z)], fun z => F18 z.1⟩
noncomputable def E18 : Env := ⟨23, tyTab tys, oneTab ones, fnTab [(34, C34)], false, [], [(3, [0, 3, 4], []), (5, [0, 3, 4], []), (6, [3], []), (100000, [3], []), (100001, [0, 3, 4], []), (99999, [2], [])], none, []⟩
noncomputable def L18 : List (LoopS (List (D71) × Unit)) := [⟨3, ⟨[(0, (.pv (.slice Y71))), (3, (.ref (.slice Y71) 56 [])), (4, (.pv (.int .i64)))], [(56, (.data false (.slice Y71) (.own .z)))]⟩, fun κ => F18_R3 (fun y => κ.exit 0 (SSh.mk' ⟨[(3, (.ref (.slice Y71) 56 []))], [(56, (.data false (.slice Y71) (.own .z)))]⟩ y))⟩]
theorem L18_3 : ∀ (κ : Kont (List (D71) × Unit)) (N : St → Option (List (D71) × Unit)) (x : (L18[0]).sh.den), execK E18 (lpOf L18) (nthLoop (codeOf Go.Proofs.Tryz.f18) 0) { κ with normal := fun σ => N (σ.keepAt (E18).hints 3) } ((L18[0]).sh.mk' x) = (L18[0]).R κ (fun x => N ((L18[0]).sh.mk' x)) x :=
  fun κ N x => by kernel_rfl
theorem C18_ok : QuietOk Go.Proofs.Tryz.prog 18 C18 :=
  told (env := E18) (fn := Go.Proofs.Tryz.f18) (c := (codeOf Go.Proofs.Tryz.f18)) (tbl := L18) (ls := [nthLoop (codeOf Go.Proofs.Tryz.f18) 0]) (vars := Go.Proofs.Tryz.f18.results.toList) Go.Proofs.Tryz.func18 (tysC_ok tys_ok rfl rfl) (Told.fnOk (.cons C34_ok .nil) rfl) (by kernel_rfl) (by decide) rfl (by decide) rfl rfl rfl (by kernel_rfl) (.cons L18[0] (by kernel_rfl) L18_3 .nil) (by kernel_rfl)

/- 86: loop.example/g00380/laws.toChange -/
noncomputable def F86 (a0 : D145) : Option (D145 × Unit) :=
 (Option.bind (F85 a0.1) fun y0 =>
 (Option.bind (F121 a0.2.1) fun y1 =>
 (some ((y0.1, (y1.1, (a0.2.2.1, ()))), ()))))

noncomputable def C86 : Fun := ⟨[(.ro Y145)], [(Y145, .z)], fun z => F86 z.1⟩
noncomputable def E86 : Env := ⟨16, tyTab tys, oneTab ones, fnTab [(85, C85), (121, C121)], false, [], [(99999, [2], [])], none, []⟩
noncomputable def L86 : List (LoopS (D145 × Unit)) := []
theorem C86_ok : QuietOk Go.Proofs.Tryz.prog 86 C86 :=
  told (env := E86) (fn := Go.Proofs.Tryz.f86) (c := (codeOf Go.Proofs.Tryz.f86)) (tbl := L86) (ls := []) (vars := Go.Proofs.Tryz.f86.results.toList) Go.Proofs.Tryz.func86 (tysC_ok tys_ok rfl rfl) (Told.fnOk (.cons C85_ok (.cons C121_ok .nil)) rfl) (by kernel_rfl) (by decide) rfl (by decide) rfl rfl rfl (by kernel_rfl) .nil (by kernel_rfl)

/- 59: loop.example/g00380/laws.toChangeS -/
noncomputable def F59_R3 (e0_0 : List (D145) × Unit → Option (List (D145) × Unit)) (rec : List (D145) × Int × List (D145) × Unit → Option (List (D145) × Unit)) (x2 : List (D145) × Int × List (D145) × Unit) : Option (List (D145) × Unit) :=
 (cond (decide (x2.2.1 < (((List.length x2.1) : Nat) : Int)))
 (gd (decide ((0 : Int) ≤ x2.2.1))
 (Option.bind x2.1[(Int.toNat x2.2.1)]? fun y4 =>
 (Option.bind (F86 y4) fun y5 =>
 (gd (decide ((0 : Int) ≤ x2.2.1))
 (gd (decide (x2.2.1 < (((List.length x2.2.2.1) : Nat) : Int)))
 (Option.bind x2.2.2.1[(Int.toNat x2.2.1)]? fun y6 =>
 (rec (x2.1, (IntKind.wrap IntKind.i64 (x2.2.1 + (1 : Int))), (List.set x2.2.2.1 (Int.toNat x2.2.1) y5.1), ()))))))))
 (e0_0 (x2.2.2.1, ())))

noncomputable def F59 (a0 : List (D145)) : Option (List (D145) × Unit) :=
 (gd (decide ((((List.length a0) : Nat) : Int) ≤ ((4294967296 : Nat) : Int)))
 (gd (decide ((((List.length a0) : Nat) : Int) ≤ (((Int.toNat (((List.length a0) : Nat) : Int)) : Nat) : Int)))
 (iter (F59_R3
 (fun y7 =>
 (some (y7.1, ())))) fuel (a0, (0 : Int), (List.replicate (Int.toNat (((List.length a0) : Nat) : Int)) (([], ((0 : Int), (false, (((0 : Int), ((0 : Int), ([], ()))), ())))), (((0 : Int), ((0 : Int), ([], ()))), (false, ())))), ()))))

noncomputable def C59 : Fun := ⟨[(.ro (.slice Y145))], [((.slice Y145), .z)], fun z => F59 z.1⟩
noncomputable def E59 : Env := ⟨23, tyTab tys, oneTab ones, fnTab [(86, C86)], false, [], [(3, [0, 3, 4], []), (5, [0, 3, 4], []), (6, [3], []), (100000, [3], []), (100001, [0, 3, 4], []), (99999, [2], [])], none, []⟩
noncomputable def L59 : List (LoopS (List (D145) × Unit)) := [⟨3, ⟨[(0, (.pv (.slice Y145))), (3, (.ref (.slice Y145) 56 [])), (4, (.pv (.int .i64)))], [(56, (.data false (.slice Y145) (.own .z)))]⟩, fun κ => F59_R3 (fun y => κ.exit 0 (SSh.mk' ⟨[(3, (.ref (.slice Y145) 56 []))], [(56, (.data false (.slice Y145) (.own .z)))]⟩ y))⟩]
theorem L59_3 : ∀ (κ : Kont (List (D145) × Unit)) (N : St → Option (List (D145) × Unit)) (x : (L59[0]).sh.den), execK E59 (lpOf L59) (nthLoop (codeOf Go.Proofs.Tryz.f59) 0) { κ with normal := fun σ => N (σ.keepAt (E59).hints 3) } ((L59[0]).sh.mk' x) = (L59[0]).R κ (fun x => N ((L59[0]).sh.mk' x)) x :=
  fun κ N x => by kernel_rfl
theorem C59_ok : QuietOk Go.Proofs.Tryz.prog 59 C59 :=
  told (env := E59) (fn := Go.Proofs.Tryz.f59) (c := (codeOf Go.Proofs.Tryz.f59)) (tbl := L59) (ls := [nthLoop (codeOf Go.Proofs.Tryz.f59) 0]) (vars := Go.Proofs.Tryz.f59.results.toList) Go.Proofs.Tryz.func59 (tysC_ok tys_ok rfl rfl) (Told.fnOk (.cons C86_ok .nil) rfl) (by kernel_rfl) (by decide) rfl (by decide) rfl rfl rfl (by kernel_rfl) (.cons L59[0] (by kernel_rfl) L59_3 .nil) (by kernel_rfl)

/- 35: loop.example/g00380/laws.toDone -/
noncomputable def F35 (a0 : D75) : Option (D75 × Unit) :=
 (Option.bind (F57 a0.2.2.1) fun y0 =>
 (Option.bind (F59 a0.2.2.2.1) fun y1 =>
 (some ((a0.1, (a0.2.1, (y0.1, (y1.1, (a0.2.2.2.2.1, (a0.2.2.2.2.2.1, ())))))), ()))))

noncomputable def C35 : Fun := ⟨[(.ro Y75)], [(Y75, .z)], fun z => F35 z.1⟩
noncomputable def E35 : Env := ⟨25, tyTab tys, oneTab ones, fnTab [(57, C57), (59, C59)], false, [], [(99999, [2], [])], none, []⟩
noncomputable def L35 : List (LoopS (D75 × Unit)) := []
theorem C35_ok : QuietOk Go.Proofs.Tryz.prog 35 C35 :=
  told (env := E35) (fn := Go.Proofs.Tryz.f35) (c := (codeOf Go.Proofs.Tryz.f35)) (tbl := L35) (ls := []) (vars := Go.Proofs.Tryz.f35.results.toList) Go.Proofs.Tryz.func35 (tysC_ok tys_ok rfl rfl) (Told.fnOk (.cons C57_ok (.cons C59_ok .nil)) rfl) (by kernel_rfl) (by decide) rfl (by decide) rfl rfl rfl (by kernel_rfl) .nil (by kernel_rfl)

/- 19: loop.example/g00380/laws.toDoneS -/
noncomputable def F19_R3 (e0_0 : List (D75) × Unit → Option (List (D75) × Unit)) (rec : List (D75) × Int × List (D75) × Unit → Option (List (D75) × Unit)) (x2 : List (D75) × Int × List (D75) × Unit) : Option (List (D75) × Unit) :=
 (cond (decide (x2.2.1 < (((List.length x2.1) : Nat) : Int)))
 (gd (decide ((0 : Int) ≤ x2.2.1))
 (Option.bind x2.1[(Int.toNat x2.2.1)]? fun y4 =>
 (Option.bind (F35 y4) fun y5 =>
 (gd (decide ((0 : Int) ≤ x2.2.1))
 (gd (decide (x2.2.1 < (((List.length x2.2.2.1) : Nat) : Int)))
 (Option.bind x2.2.2.1[(Int.toNat x2.2.1)]? fun y6 =>
 (rec (x2.1, (IntKind.wrap IntKind.i64 (x2.2.1 + (1 : Int))), (List.set x2.2.2.1 (Int.toNat x2.2.1) y5.1), ()))))))))
 (e0_0 (x2.2.2.1, ())))

noncomputable def F19 (a0 : List (D75)) : Option (List (D75) × Unit) :=
 (gd (decide ((((List.length a0) : Nat) : Int) ≤ ((4294967296 : Nat) : Int)))
 (gd (decide ((((List.length a0) : Nat) : Int) ≤ (((Int.toNat (((List.length a0) : Nat) : Int)) : Nat) : Int)))
 (iter (F19_R3
 (fun y7 =>
 (some (y7.1, ())))) fuel (a0, (0 : Int), (List.replicate (Int.toNat (((List.length a0) : Nat) : Int)) ((0 : Int), ((0 : Int), ([], ([], (false, (false, ()))))))), ()))))

noncomputable def C19 : Fun := ⟨[(.ro (.slice Y75))], [((.slice Y75), .z)], fun z => F19 z.1⟩
noncomputable def E19 : Env := ⟨23, tyTab tys, oneTab ones, fnTab [(35, C35)], false, [], [(3, [0, 3, 4], []), (5, [0, 3, 4], []), (6, [3], []), (100000, [3], []), (100001, [0, 3, 4], []), (99999, [2], [])], none, []⟩
noncomputable def L19 : List (LoopS (List (D75) × Unit)) := [⟨3, ⟨[(0, (.pv (.slice Y75))), (3, (.ref (.slice Y75) 56 [])), (4, (.pv (.int .i64)))], [(56, (.data false (.slice Y75) (.own .z)))]⟩, fun κ => F19_R3 (fun y => κ.exit 0 (SSh.mk' ⟨[(3, (.ref (.slice Y75) 56 []))], [(56, (.data false (.slice Y75) (.own .z)))]⟩ y))⟩]
theorem L19_3 : ∀ (κ : Kont (List (D75) × Unit)) (N : St → Option (List (D75) × Unit)) (x : (L19[0]).sh.den), execK E19 (lpOf L19) (nthLoop (codeOf Go.Proofs.Tryz.f19) 0) { κ with normal := fun σ => N (σ.keepAt (E19).hints 3) } ((L19[0]).sh.mk' x) = (L19[0]).R κ (fun x => N ((L19[0]).sh.mk' x)) x :=
  fun κ N x => by kernel_rfl
theorem C19_ok : QuietOk Go.Proofs.Tryz.prog 19 C19 :=
  told (env := E19) (fn := Go.Proofs.Tryz.f19) (c := (codeOf Go.Proofs.Tryz.f19)) (tbl := L19) (ls := [nthLoop (codeOf Go.Proofs.Tryz.f19) 0]) (vars := Go.Proofs.Tryz.f19.results.toList) Go.Proofs.Tryz.func19 (tysC_ok tys_ok rfl rfl) (Told.fnOk (.cons C35_ok .nil) rfl) (by kernel_rfl) (by decide) rfl (by decide) rfl rfl rfl (by kernel_rfl) (.cons L19[0] (by kernel_rfl) L19_3 .nil) (by kernel_rfl)

/- 7: loop.example/g00380/laws.toStore -/
noncomputable def F7 (a0 : D25) : Option (D25 × Unit) :=
 (Option.bind (F17 a0.1) fun y0 =>
 (Option.bind (F18 a0.2.1) fun y1 =>
 (Option.bind (F19 a0.2.2.1) fun y2 =>
 (some ((y0.1, (y1.1, (y2.1, (a0.2.2.2.1, ())))), ())))))

noncomputable def C7 : Fun := ⟨[(.ro Y25)], [(Y25, .z)], fun z => F7 z.1⟩
noncomputable def E7 : Env := ⟨20, tyTab tys, oneTab ones, fnTab [(17, C17), (18, C18), (19, C19)], false, [], [(99999, [2], [])], none, []⟩
noncomputable def L7 : List (LoopS (D25 × Unit)) := []
theorem C7_ok : QuietOk Go.Proofs.Tryz.prog 7 C7 :=
  told (env := E7) (fn := Go.Proofs.Tryz.f7) (c := (codeOf Go.Proofs.Tryz.f7)) (tbl := L7) (ls := []) (vars := Go.Proofs.Tryz.f7.results.toList) Go.Proofs.Tryz.func7 (tysC_ok tys_ok rfl rfl) (Told.fnOk (.cons C17_ok (.cons C18_ok (.cons C19_ok .nil))) rfl) (by kernel_rfl) (by decide) rfl (by decide) rfl rfl rfl (by kernel_rfl) .nil (by kernel_rfl)

/- 38: loop.example/g00380/impl.inRange -/
noncomputable def F38 (a0 : Int) (a1 : Int) (a2 : Int) : Option (Bool × Unit) :=
 (cond (decide (a1 ≤ a0))
 (some ((decide (a0 ≤ a2)), ()))
 (some (false, ())))

noncomputable def C38 : Fun := ⟨[(.ro (.int .i64)), (.ro (.int .i64)), (.ro (.int .i64))], [(.bool, .z)], fun z => F38 z.1 z.2.1 z.2.2.1⟩
noncomputable def E38 : Env := ⟨15, tyTab tys, oneTab ones, fnTab [], false, [], [(99999, [6], [])], none, []⟩
noncomputable def L38 : List (LoopS (Bool × Unit)) := []
theorem C38_ok : QuietOk Go.Proofs.Tryz.prog 38 C38 :=
  told (env := E38) (fn := Go.Proofs.Tryz.f38) (c := (codeOf Go.Proofs.Tryz.f38)) (tbl := L38) (ls := []) (vars := Go.Proofs.Tryz.f38.results.toList) Go.Proofs.Tryz.func38 (tysC_ok tys_ok rfl rfl) (Told.fnOk .nil rfl) (by kernel_rfl) (by decide) rfl (by decide) rfl rfl rfl (by kernel_rfl) .nil (by kernel_rfl)

/- 156: loop.example/g00380/impl.isLetter -/
noncomputable def F156 (a0 : Int) : Option (Bool × Unit) :=
 (cond (decide (a0 ≥ (97 : Int)))
 (cond (decide (a0 ≤ (122 : Int)))
 (some (true, ()))
 (cond (decide (a0 ≥ (65 : Int)))
 (cond (decide (a0 ≤ (90 : Int)))
 (some (true, ()))
 (some ((a0 == (95 : Int)), ())))
 (some ((a0 == (95 : Int)), ()))))
 (cond (decide (a0 ≥ (65 : Int)))
 (cond (decide (a0 ≤ (90 : Int)))
 (some (true, ()))
 (some ((a0 == (95 : Int)), ())))
 (some ((a0 == (95 : Int)), ()))))

noncomputable def C156 : Fun := ⟨[(.ro (.int .u8))], [(.bool, .z)], fun z => F156 z.1⟩
noncomputable def E156 : Env := ⟨21, tyTab tys, oneTab ones, fnTab [], false, [], [(99999, [2], [])], none, []⟩
noncomputable def L156 : List (LoopS (Bool × Unit)) := []
theorem C156_ok : QuietOk Go.Proofs.Tryz.prog 156 C156 :=
  told (env := E156) (fn := Go.Proofs.Tryz.f156) (c := (codeOf Go.Proofs.Tryz.f156)) (tbl := L156) (ls := []) (vars := Go.Proofs.Tryz.f156.results.toList) Go.Proofs.Tryz.func156 (tysC_ok tys_ok rfl rfl) (Told.fnOk .nil rfl) (by kernel_rfl) (by decide) rfl (by decide) rfl rfl rfl (by kernel_rfl) .nil (by kernel_rfl)

/- 157: loop.example/g00380/impl.isDigit -/
noncomputable def F157 (a0 : Int) : Option (Bool × Unit) :=
 (cond (decide (a0 ≥ (48 : Int)))
 (some ((decide (a0 ≤ (57 : Int))), ()))
 (some (false, ())))

noncomputable def C157 : Fun := ⟨[(.ro (.int .u8))], [(.bool, .z)], fun z => F157 z.1⟩
noncomputable def E157 : Env := ⟨9, tyTab tys, oneTab ones, fnTab [], false, [], [(99999, [2], [])], none, []⟩
noncomputable def L157 : List (LoopS (Bool × Unit)) := []
theorem C157_ok : QuietOk Go.Proofs.Tryz.prog 157 C157 :=
  told (env := E157) (fn := Go.Proofs.Tryz.f157) (c := (codeOf Go.Proofs.Tryz.f157)) (tbl := L157) (ls := []) (vars := Go.Proofs.Tryz.f157.results.toList) Go.Proofs.Tryz.func157 (tysC_ok tys_ok rfl rfl) (Told.fnOk .nil rfl) (by kernel_rfl) (by decide) rfl (by decide) rfl rfl rfl (by kernel_rfl) .nil (by kernel_rfl)

/- 128: loop.example/g00380/impl.NameOK -/
noncomputable def F128_R2 (e0_0 : List UInt8 × Unit → Option (Bool × Unit)) (er_1 : Bool × Unit → Option (Bool × Unit)) (rec : List UInt8 × Int × Int × Unit → Option (Bool × Unit)) (x2 : List UInt8 × Int × Int × Unit) : Option (Bool × Unit) :=
 (cond (decide (x2.2.2.1 < x2.2.1))
 (let j9 : List UInt8 × Int × Int × Unit → Option (Bool × Unit) := fun (y10 : List UInt8 × Int × Int × Unit) =>
 (rec (y10.1, y10.2.1, (IntKind.wrap IntKind.i64 (y10.2.2.1 + (1 : Int))), ()))
 (gd (decide ((0 : Int) ≤ x2.2.2.1))
 (Option.bind x2.1[(Int.toNat x2.2.2.1)]? fun y5 =>
 (Option.bind (F156 (((UInt8.toNat y5) : Nat) : Int)) fun y6 =>
 (cond (!y6.1)
 (gd (decide ((0 : Int) ≤ x2.2.2.1))
 (Option.bind x2.1[(Int.toNat x2.2.2.1)]? fun y7 =>
 (Option.bind (F157 (((UInt8.toNat y7) : Nat) : Int)) fun y8 =>
 (cond (!y8.1)
 (er_1 (false, ()))
 (cond (x2.2.2.1 == (0 : Int))
 (er_1 (false, ()))
 (j9 (x2.1, x2.2.1, x2.2.2.1, ())))))))
 (j9 (x2.1, x2.2.1, x2.2.2.1, ())))))))
 (e0_0 (x2.1, ())))

noncomputable def F128 (a0 : List UInt8) : Option (Bool × Unit) :=
 (iter (F128_R2
 (fun y11 =>
 (Option.bind (F38 (((List.length y11.1) : Nat) : Int) (1 : Int) (40 : Int)) fun y13 =>
 (some (y13.1, ()))))
 (fun y12 =>
 (some (y12.1, ())))) fuel (a0, (((List.length a0) : Nat) : Int), (0 : Int), ()))

noncomputable def C128 : Fun := ⟨[(.ro .str)], [(.bool, .z)], fun z => F128 z.1⟩
noncomputable def E128 : Env := ⟨29, tyTab tys, oneTab ones, fnTab [(38, C38), (156, C156), (157, C157)], false, [], [(2, [0, 5, 6], []), (3, [0, 5, 6], []), (6, [0, 5, 6], []), (7, [0], []), (100000, [0], []), (100001, [0, 5, 6], []), (99999, [2], [])], none, []⟩
noncomputable def L128 : List (LoopS (Bool × Unit)) := [⟨2, ⟨[(0, (.pv .str)), (5, (.pv (.int .i64))), (6, (.pv (.int .i64)))], []⟩, fun κ => F128_R2 (fun y => κ.exit 0 (SSh.mk' ⟨[(0, (.pv .str))], []⟩ y)) (fun y => κ.ret (SSh.mk' ⟨[(2, (.pv .bool))], []⟩ y))⟩]
theorem L128_2 : ∀ (κ : Kont (Bool × Unit)) (N : St → Option (Bool × Unit)) (x : (L128[0]).sh.den), execK E128 (lpOf L128) (nthLoop (codeOf Go.Proofs.Tryz.f128) 0) { κ with normal := fun σ => N (σ.keepAt (E128).hints 2) } ((L128[0]).sh.mk' x) = (L128[0]).R κ (fun x => N ((L128[0]).sh.mk' x)) x :=
  fun κ N x => by kernel_rfl
theorem C128_ok : QuietOk Go.Proofs.Tryz.prog 128 C128 :=
  told (env := E128) (fn := Go.Proofs.Tryz.f128) (c := (codeOf Go.Proofs.Tryz.f128)) (tbl := L128) (ls := [nthLoop (codeOf Go.Proofs.Tryz.f128) 0]) (vars := Go.Proofs.Tryz.f128.results.toList) Go.Proofs.Tryz.func128 (tysC_ok tys_ok rfl rfl) (Told.fnOk (.cons C38_ok (.cons C156_ok (.cons C157_ok .nil))) rfl) (by kernel_rfl) (by decide) rfl (by decide) rfl rfl rfl (by kernel_rfl) (.cons L128[0] (by kernel_rfl) L128_2 .nil) (by kernel_rfl)

/- 90: loop.example/g00380/impl.isShort -/
noncomputable def F90 (a0 : List UInt8) : Option (Bool × Unit) :=
 (cond (decide ((((List.length a0) : Nat) : Int) ≤ (12 : Int)))
 (Option.bind (F128 a0) fun y0 =>
 (some (y0.1, ())))
 (some (false, ())))

noncomputable def C90 : Fun := ⟨[(.ro .str)], [(.bool, .z)], fun z => F90 z.1⟩
noncomputable def E90 : Env := ⟨10, tyTab tys, oneTab ones, fnTab [(128, C128)], false, [], [(99999, [2], [])], none, []⟩
noncomputable def L90 : List (LoopS (Bool × Unit)) := []
theorem C90_ok : QuietOk Go.Proofs.Tryz.prog 90 C90 :=
  told (env := E90) (fn := Go.Proofs.Tryz.f90) (c := (codeOf Go.Proofs.Tryz.f90)) (tbl := L90) (ls := []) (vars := Go.Proofs.Tryz.f90.results.toList) Go.Proofs.Tryz.func90 (tysC_ok tys_ok rfl rfl) (Told.fnOk (.cons C128_ok .nil) rfl) (by kernel_rfl) (by decide) rfl (by decide) rfl rfl rfl (by kernel_rfl) .nil (by kernel_rfl)

/- 152: slices.IndexFunc[[]loop.example/g00380/impl.Part,loop.example/g00380/impl.Part] -/
noncomputable def F152_R2 (e0_0 : Unit → Option (Int × Unit)) (er_1 : Int × Unit → Option (Int × Unit)) (rec : List (D181) × (D181 → Option (Bool)) × Int × Int × Unit → Option (Int × Unit)) (x2 : List (D181) × (D181 → Option (Bool)) × Int × Int × Unit) : Option (Int × Unit) :=
 (cond (decide (x2.2.2.2.1 < x2.2.2.1))
 (gd (decide ((0 : Int) ≤ x2.2.2.2.1))
 (Option.bind x2.1[(Int.toNat x2.2.2.2.1)]? fun y5 =>
 (Option.bind (x2.2.1 y5) fun y6 =>
 (cond y6
 (er_1 (x2.2.2.2.1, ()))
 (rec (x2.1, x2.2.1, x2.2.2.1, (IntKind.wrap IntKind.i64 (x2.2.2.2.1 + (1 : Int))), ()))))))
 (e0_0 (())))

noncomputable def F152 (a0 : List (D181)) (a1 : (D181 → Option (Bool))) : Option (Int × Unit) :=
 (iter (F152_R2
 (fun y7 =>
 (some ((-(1 : Int)), ())))
 (fun y8 =>
 (some (y8.1, ())))) fuel (a0, a1, (((List.length a0) : Nat) : Int), (0 : Int), ()))

noncomputable def C152 : Fun := ⟨[(.ro (.slice Y181)), (.fn Y181 .bool)], [((.int .i64), .z)], fun z => F152 z.1 z.2.1⟩
noncomputable def E152 : Env := ⟨19, tyTab tys, oneTab ones, fnTab [], false, [], [(2, [0, 1, 7, 8], []), (3, [0, 1, 7, 8], []), (6, [0, 1, 7, 8], []), (7, [], []), (100000, [], []), (100001, [0, 1, 7, 8], []), (99999, [4], [])], none, []⟩
noncomputable def L152 : List (LoopS (Int × Unit)) := [⟨2, ⟨[(0, (.pv (.slice Y181))), (1, (.fnA Y181 .bool)), (7, (.pv (.int .i64))), (8, (.pv (.int .i64)))], []⟩, fun κ => F152_R2 (fun y => κ.exit 0 (SSh.mk' ⟨[], []⟩ y)) (fun y => κ.ret (SSh.mk' ⟨[(4, (.pv (.int .i64)))], []⟩ y))⟩]
theorem L152_2 : ∀ (κ : Kont (Int × Unit)) (N : St → Option (Int × Unit)) (x : (L152[0]).sh.den), execK E152 (lpOf L152) (nthLoop (codeOf Go.Proofs.Tryz.f152) 0) { κ with normal := fun σ => N (σ.keepAt (E152).hints 2) } ((L152[0]).sh.mk' x) = (L152[0]).R κ (fun x => N ((L152[0]).sh.mk' x)) x :=
  fun κ N x => by kernel_rfl
theorem C152_ok : QuietOk Go.Proofs.Tryz.prog 152 C152 :=
  told (env := E152) (fn := Go.Proofs.Tryz.f152) (c := (codeOf Go.Proofs.Tryz.f152)) (tbl := L152) (ls := [nthLoop (codeOf Go.Proofs.Tryz.f152) 0]) (vars := Go.Proofs.Tryz.f152.results.toList) Go.Proofs.Tryz.func152 (tysC_ok tys_ok rfl rfl) (Told.fnOk .nil rfl) (by kernel_rfl) (by decide) rfl (by decide) rfl rfl rfl (by kernel_rfl) (.cons L152[0] (by kernel_rfl) L152_2 .nil) (by kernel_rfl)

/- 122: slices.ContainsFunc[[]loop.example/g00380/impl.Part,loop.example/g00380/impl.Part] -/
noncomputable def F122 (a0 : List (D181)) (a1 : (D181 → Option (Bool))) : Option (Bool × Unit) :=
 (Option.bind (F152 a0 a1) fun y0 =>
 (some ((decide (y0.1 ≥ (0 : Int))), ())))

noncomputable def C122 : Fun := ⟨[(.ro (.slice Y181)), (.fn Y181 .bool)], [(.bool, .z)], fun z => F122 z.1 z.2.1⟩
noncomputable def E122 : Env := ⟨9, tyTab tys, oneTab ones, fnTab [(152, C152)], false, [], [(99999, [4], [])], none, []⟩
noncomputable def L122 : List (LoopS (Bool × Unit)) := []
theorem C122_ok : QuietOk Go.Proofs.Tryz.prog 122 C122 :=
  told (env := E122) (fn := Go.Proofs.Tryz.f122) (c := (codeOf Go.Proofs.Tryz.f122)) (tbl := L122) (ls := []) (vars := Go.Proofs.Tryz.f122.results.toList) Go.Proofs.Tryz.func122 (tysC_ok tys_ok rfl rfl) (Told.fnOk (.cons C152_ok .nil) rfl) (by kernel_rfl) (by decide) rfl (by decide) rfl rfl rfl (by kernel_rfl) .nil (by kernel_rfl)

/- 220: internal/stringslite.IndexByte -/
noncomputable def F220 (a0 : List UInt8) (a1 : Int) : Option (Int × Unit) :=
 (Option.bind (F230 a0 a1) fun y0 =>
 (some (y0.1, ())))

noncomputable def C220 : Fun := ⟨[(.ro .str), (.ro (.int .u8))], [((.int .i64), .z)], fun z => F220 z.1 z.2.1⟩
noncomputable def E220 : Env := ⟨8, tyTab tys, oneTab ones, fnTab [], false, [], [(99999, [4], [])], none, [(230, C230)]⟩
noncomputable def L220 : List (LoopS (Int × Unit)) := []
theorem C220_ok : QuietOk Go.Proofs.Tryz.prog 220 C220 :=
  told (env := E220) (fn := Go.Proofs.Tryz.f220) (c := (codeOf Go.Proofs.Tryz.f220)) (tbl := L220) (ls := []) (vars := Go.Proofs.Tryz.f220.results.toList) Go.Proofs.Tryz.func220 (tysC_ok tys_ok rfl rfl) (Told.fnOk .nil rfl (.cons C230_ok .nil)) (by kernel_rfl) (by decide) rfl (by decide) rfl rfl rfl (by kernel_rfl) .nil (by kernel_rfl)

/- 222: internal/bytealg.Cutover -/
noncomputable def F222 (a0 : Int) : Option (Int × Unit) :=
 (some ((IntKind.wrap IntKind.i64 (Int.tdiv (IntKind.wrap IntKind.i64 (a0 + (16 : Int))) (8 : Int))), ()))

noncomputable def C222 : Fun := ⟨[(.ro (.int .i64))], [((.int .i64), .z)], fun z => F222 z.1⟩
noncomputable def E222 : Env := ⟨6, tyTab tys, oneTab ones, fnTab [], false, [], [(99999, [2], [])], none, []⟩
noncomputable def L222 : List (LoopS (Int × Unit)) := []
theorem C222_ok : QuietOk Go.Proofs.Tryz.prog 222 C222 :=
  told (env := E222) (fn := Go.Proofs.Tryz.f222) (c := (codeOf Go.Proofs.Tryz.f222)) (tbl := L222) (ls := []) (vars := Go.Proofs.Tryz.f222.results.toList) Go.Proofs.Tryz.func222 (tysC_ok tys_ok rfl rfl) (Told.fnOk .nil rfl) (by kernel_rfl) (by decide) rfl (by decide) rfl rfl rfl (by kernel_rfl) .nil (by kernel_rfl)

/- 214: internal/stringslite.Index -/
noncomputable def F214 (a0 : List UInt8) (a1 : List UInt8) : Option (Int × Unit) :=
 (cond ((((List.length a1) : Nat) : Int) == (0 : Int))
 (some ((0 : Int), ()))
 (cond (a1 == a0)
 (some ((0 : Int), ()))
 (cond ((((List.length a1) : Nat) : Int) == (1 : Int))
 (Option.bind a1[(Int.toNat (0 : Int))]? fun y1 =>
 (Option.bind (F220 a0 (((UInt8.toNat y1) : Nat) : Int)) fun y2 =>
 (some (y2.1, ()))))
 (gd (decide ((((List.length a1) : Nat) : Int) ≥ (((List.length a0) : Nat) : Int)))
 (some ((-(1 : Int)), ()))))))

noncomputable def C214 : Fun := ⟨[(.ro .str), (.ro .str)], [((.int .i64), .z)], fun z => F214 z.1 z.2.1⟩
noncomputable def E214 : Env := ⟨143, tyTab tys, oneTab ones, fnTab [(220, C220), (222, C222)], false, [], [(10, [0, 1, 5], []), (15, [0, 1, 5, 6, 7, 8, 9, 10], []), (16, [0, 1, 5, 6, 7, 8, 9, 10], []), (20, [0, 1, 5, 6, 7, 8, 9, 10, 11], []), (21, [0, 1, 5, 6, 7, 8, 9, 10], []), (23, [0, 1, 5, 6, 7, 8, 9, 10], []), (29, [], []), (34, [8, 13], []), (35, [], []), (100000, [0, 1, 5], []), (100001, [], []), (100002, [0, 1, 5, 6, 7, 8, 9, 10], []), (99999, [4], [])], none, []⟩
noncomputable def L214 : List (LoopS (Int × Unit)) := []
theorem C214_ok : QuietOk Go.Proofs.Tryz.prog 214 C214 :=
  told (env := E214) (fn := Go.Proofs.Tryz.f214) (c := (codeOf Go.Proofs.Tryz.f214)) (tbl := L214) (ls := [nthLoop (codeOf Go.Proofs.Tryz.f214) 0]) (vars := Go.Proofs.Tryz.f214.results.toList) Go.Proofs.Tryz.func214 (tysC_ok tys_ok rfl rfl) (Told.fnOk (.cons C220_ok (.cons C222_ok .nil)) rfl) (by kernel_rfl) (by decide) rfl (by decide) rfl rfl rfl (by kernel_rfl) (.skip (by kernel_rfl) .nil) (by kernel_rfl)

/- 200: strings.Index -/
noncomputable def F200 (a0 : List UInt8) (a1 : List UInt8) : Option (Int × Unit) :=
 (Option.bind (F214 a0 a1) fun y0 =>
 (some (y0.1, ())))

noncomputable def C200 : Fun := ⟨[(.ro .str), (.ro .str)], [((.int .i64), .z)], fun z => F200 z.1 z.2.1⟩
noncomputable def E200 : Env := ⟨8, tyTab tys, oneTab ones, fnTab [(214, C214)], false, [], [(99999, [4], [])], none, []⟩
noncomputable def L200 : List (LoopS (Int × Unit)) := []
theorem C200_ok : QuietOk Go.Proofs.Tryz.prog 200 C200 :=
  told (env := E200) (fn := Go.Proofs.Tryz.f200) (c := (codeOf Go.Proofs.Tryz.f200)) (tbl := L200) (ls := []) (vars := Go.Proofs.Tryz.f200.results.toList) Go.Proofs.Tryz.func200 (tysC_ok tys_ok rfl rfl) (Told.fnOk (.cons C214_ok .nil) rfl) (by kernel_rfl) (by decide) rfl (by decide) rfl rfl rfl (by kernel_rfl) .nil (by kernel_rfl)

/- 199: strings.Count -/
noncomputable def F199_R6 (er_0 : Int × Unit → Option (Int × Unit)) (rec : List UInt8 × List UInt8 × Int × Unit → Option (Int × Unit)) (x5 : List UInt8 × List UInt8 × Int × Unit) : Option (Int × Unit) :=
 (Option.bind (F200 x5.1 x5.2.1) fun y6 =>
 (cond (y6.1 == (-(1 : Int)))
 (er_0 (x5.2.2.1, ()))
 (gd (decide ((((List.length x5.1) : Nat) : Int) ≤ (((List.length x5.1) : Nat) : Int)))
 (gd (decide ((0 : Int) ≤ (IntKind.wrap IntKind.i64 (y6.1 + (((List.length x5.2.1) : Nat) : Int)))))
 (gd (decide ((IntKind.wrap IntKind.i64 (y6.1 + (((List.length x5.2.1) : Nat) : Int))) ≤ (((Int.toNat (((List.length x5.1) : Nat) : Int)) : Nat) : Int)))
 (rec ((List.drop (Int.toNat (IntKind.wrap IntKind.i64 (y6.1 + (((List.length x5.2.1) : Nat) : Int)))) (List.take (Int.toNat (((List.length x5.1) : Nat) : Int)) x5.1)), x5.2.1, (IntKind.wrap IntKind.i64 (x5.2.2.1 + (1 : Int))), ())))))))

noncomputable def F199 (a0 : List UInt8) (a1 : List UInt8) : Option (Int × Unit) :=
 (cond ((((List.length a1) : Nat) : Int) == (0 : Int))
 none
 (cond ((((List.length a1) : Nat) : Int) == (1 : Int))
 (Option.bind a1[(Int.toNat (0 : Int))]? fun y2 =>
 (Option.bind (F213 a0 (((UInt8.toNat y2) : Nat) : Int)) fun y3 =>
 (some (y3.1, ()))))
 (iter (F199_R6
 (fun y8 =>
 (some (y8.1, ())))) fuel (a0, a1, (0 : Int), ()))))

noncomputable def C199 : Fun := ⟨[(.ro .str), (.ro .str)], [((.int .i64), .z)], fun z => F199 z.1 z.2.1⟩
noncomputable def E199 : Env := ⟨34, tyTab tys, oneTab ones, fnTab [(200, C200)], false, [], [(3, [0, 1], []), (5, [0, 1], []), (6, [0, 1, 5], []), (9, [0, 1, 5, 6], []), (100000, [], []), (100001, [0, 1, 5], []), (99999, [4], [])], none, [(213, C213)]⟩
noncomputable def L199 : List (LoopS (Int × Unit)) := [⟨6, ⟨[(0, (.pv .str)), (1, (.pv .str)), (5, (.pv (.int .i64)))], []⟩, fun κ => F199_R6 (fun y => κ.ret (SSh.mk' ⟨[(4, (.pv (.int .i64)))], []⟩ y))⟩]
theorem L199_6 : ∀ (κ : Kont (Int × Unit)) (N : St → Option (Int × Unit)) (x : (L199[0]).sh.den), execK E199 (lpOf L199) (nthLoop (codeOf Go.Proofs.Tryz.f199) 0) { κ with normal := fun σ => N (σ.keepAt (E199).hints 6) } ((L199[0]).sh.mk' x) = (L199[0]).R κ (fun x => N ((L199[0]).sh.mk' x)) x :=
  fun κ N x => by kernel_rfl
theorem C199_ok : QuietOk Go.Proofs.Tryz.prog 199 C199 :=
  told (env := E199) (fn := Go.Proofs.Tryz.f199) (c := (codeOf Go.Proofs.Tryz.f199)) (tbl := L199) (ls := [nthLoop (codeOf Go.Proofs.Tryz.f199) 0]) (vars := Go.Proofs.Tryz.f199.results.toList) Go.Proofs.Tryz.func199 (tysC_ok tys_ok rfl rfl) (Told.fnOk (.cons C200_ok .nil) rfl (.cons C213_ok .nil)) (by kernel_rfl) (by decide) rfl (by decide) rfl rfl rfl (by kernel_rfl) (.cons L199[0] (by kernel_rfl) L199_6 .nil) (by kernel_rfl)

/- 187: strings.genSplit -/
noncomputable def F187_R11 (e0_0 : List UInt8 × Int × List (List UInt8) × Unit → Option (List (List UInt8) × Unit)) (rec : List UInt8 × List UInt8 × Int × Int × Int × List (List UInt8) × Unit → Option (List (List UInt8) × Unit)) (x8 : List UInt8 × List UInt8 × Int × Int × Int × List (List UInt8) × Unit) : Option (List (List UInt8) × Unit) :=
 (cond (decide (x8.2.2.2.2.1 < x8.2.2.2.1))
 (Option.bind (F200 x8.1 x8.2.1) fun y10 =>
 (cond (decide (y10.1 < (0 : Int)))
 (e0_0 (x8.1, x8.2.2.2.2.1, x8.2.2.2.2.2.1, ()))
 (gd (decide ((0 : Int) ≤ (IntKind.wrap IntKind.i64 (y10.1 + x8.2.2.1))))
 (gd (decide ((IntKind.wrap IntKind.i64 (y10.1 + x8.2.2.1)) ≤ (((List.length x8.1) : Nat) : Int)))
 (gd (decide ((0 : Int) ≤ x8.2.2.2.2.1))
 (gd (decide (x8.2.2.2.2.1 < (((List.length x8.2.2.2.2.2.1) : Nat) : Int)))
 (Option.bind x8.2.2.2.2.2.1[(Int.toNat x8.2.2.2.2.1)]? fun y12 =>
 (gd (decide ((((List.length x8.1) : Nat) : Int) ≤ (((List.length x8.1) : Nat) : Int)))
 (gd (decide ((0 : Int) ≤ (IntKind.wrap IntKind.i64 (y10.1 + (((List.length x8.2.1) : Nat) : Int)))))
 (gd (decide ((IntKind.wrap IntKind.i64 (y10.1 + (((List.length x8.2.1) : Nat) : Int))) ≤ (((Int.toNat (((List.length x8.1) : Nat) : Int)) : Nat) : Int)))
 (rec ((List.drop (Int.toNat (IntKind.wrap IntKind.i64 (y10.1 + (((List.length x8.2.1) : Nat) : Int)))) (List.take (Int.toNat (((List.length x8.1) : Nat) : Int)) x8.1)), x8.2.1, x8.2.2.1, x8.2.2.2.1, (IntKind.wrap IntKind.i64 (x8.2.2.2.2.1 + (1 : Int))), (List.set x8.2.2.2.2.2.1 (Int.toNat x8.2.2.2.2.1) (List.drop (Int.toNat (0 : Int)) (List.take (Int.toNat (IntKind.wrap IntKind.i64 (y10.1 + x8.2.2.1))) x8.1))), ()))))))))))))
 (e0_0 (x8.1, x8.2.2.2.2.1, x8.2.2.2.2.2.1, ())))

noncomputable def F187 (a0 : List UInt8) (a1 : List UInt8) (a2 : Int) (a3 : Int) : Option (List (List UInt8) × Unit) :=
 (cond (a3 == (0 : Int))
 (some ([], ()))
 (cond (a1 == [])
 none
 (let j4 : List UInt8 × List UInt8 × Int × Int × Unit → Option (List (List UInt8) × Unit) := fun (y5 : List UInt8 × List UInt8 × Int × Int × Unit) =>
 (gd (decide ((0 : Int) ≤ (cond (decide ((IntKind.wrap IntKind.i64 ((((List.length y5.1) : Nat) : Int) + (1 : Int))) < y5.2.2.2.1)) (IntKind.wrap IntKind.i64 ((((List.length y5.1) : Nat) : Int) + (1 : Int))) y5.2.2.2.1)))
 (gd (decide ((cond (decide ((IntKind.wrap IntKind.i64 ((((List.length y5.1) : Nat) : Int) + (1 : Int))) < y5.2.2.2.1)) (IntKind.wrap IntKind.i64 ((((List.length y5.1) : Nat) : Int) + (1 : Int))) y5.2.2.2.1) ≤ ((4294967296 : Nat) : Int)))
 (gd (decide ((0 : Int) ≤ (cond (decide ((IntKind.wrap IntKind.i64 ((((List.length y5.1) : Nat) : Int) + (1 : Int))) < y5.2.2.2.1)) (IntKind.wrap IntKind.i64 ((((List.length y5.1) : Nat) : Int) + (1 : Int))) y5.2.2.2.1)))
 (gd (decide ((cond (decide ((IntKind.wrap IntKind.i64 ((((List.length y5.1) : Nat) : Int) + (1 : Int))) < y5.2.2.2.1)) (IntKind.wrap IntKind.i64 ((((List.length y5.1) : Nat) : Int) + (1 : Int))) y5.2.2.2.1) ≤ (((Int.toNat (cond (decide ((IntKind.wrap IntKind.i64 ((((List.length y5.1) : Nat) : Int) + (1 : Int))) < y5.2.2.2.1)) (IntKind.wrap IntKind.i64 ((((List.length y5.1) : Nat) : Int) + (1 : Int))) y5.2.2.2.1)) : Nat) : Int)))
 (iter (F187_R11
 (fun y13 =>
 (gd (decide ((0 : Int) ≤ y13.2.1))
 (gd (decide (y13.2.1 < (((List.length y13.2.2.1) : Nat) : Int)))
 (Option.bind y13.2.2.1[(Int.toNat y13.2.1)]? fun y14 =>
 (gd (decide ((0 : Int) ≤ (IntKind.wrap IntKind.i64 (y13.2.1 + (1 : Int)))))
 (gd (decide ((IntKind.wrap IntKind.i64 (y13.2.1 + (1 : Int))) ≤ (((List.length (List.set y13.2.2.1 (Int.toNat y13.2.1) y13.1)) : Nat) : Int)))
 (some ((List.drop (Int.toNat (0 : Int)) (List.take (Int.toNat (IntKind.wrap IntKind.i64 (y13.2.1 + (1 : Int)))) (List.set y13.2.2.1 (Int.toNat y13.2.1) y13.1))), ()))))))))) fuel (y5.1, y5.2.1, y5.2.2.1, (IntKind.wrap IntKind.i64 ((cond (decide ((IntKind.wrap IntKind.i64 ((((List.length y5.1) : Nat) : Int) + (1 : Int))) < y5.2.2.2.1)) (IntKind.wrap IntKind.i64 ((((List.length y5.1) : Nat) : Int) + (1 : Int))) y5.2.2.2.1) - (1 : Int))), (0 : Int), (List.replicate (Int.toNat (cond (decide ((IntKind.wrap IntKind.i64 ((((List.length y5.1) : Nat) : Int) + (1 : Int))) < y5.2.2.2.1)) (IntKind.wrap IntKind.i64 ((((List.length y5.1) : Nat) : Int) + (1 : Int))) y5.2.2.2.1)) []), ()))))))
 (cond (decide (a3 < (0 : Int)))
 (Option.bind (F199 a0 a1) fun y3 =>
 (j4 (a0, a1, a2, (IntKind.wrap IntKind.i64 (y3.1 + (1 : Int))), ())))
 (j4 (a0, a1, a2, a3, ()))))))

noncomputable def C187 : Fun := ⟨[(.ro .str), (.ro .str), (.ro (.int .i64)), (.ro (.int .i64))], [((.slice .str), .z)], fun z => F187 z.1 z.2.1 z.2.2.1 z.2.2.2.1⟩
noncomputable def E187 : Env := ⟨66, tyTab tys, oneTab ones, fnTab [(199, C199), (200, C200)], false, [], [(3, [0, 1, 2, 3], []), (5, [0, 1, 2, 3], []), (7, [0, 1, 2, 3], []), (11, [0, 1, 2, 3, 9, 10], []), (12, [0, 1, 2, 3, 9, 10], []), (14, [0, 1, 2, 3, 9, 10, 11], []), (17, [0, 9, 10], []), (100000, [0, 9, 10], []), (100001, [0, 1, 2, 3, 9, 10], []), (99999, [8], [])], none, []⟩
noncomputable def L187 : List (LoopS (List (List UInt8) × Unit)) := [⟨11, ⟨[(0, (.pv .str)), (1, (.pv .str)), (2, (.pv (.int .i64))), (3, (.pv (.int .i64))), (9, (.ref (.slice .str) 248 [])), (10, (.pv (.int .i64)))], [(248, (.data false (.slice .str) (.own .z)))]⟩, fun κ => F187_R11 (fun y => κ.exit 0 (SSh.mk' ⟨[(0, (.pv .str)), (9, (.ref (.slice .str) 248 [])), (10, (.pv (.int .i64)))], [(248, (.data false (.slice .str) (.own .z)))]⟩ y))⟩]
theorem L187_11 : ∀ (κ : Kont (List (List UInt8) × Unit)) (N : St → Option (List (List UInt8) × Unit)) (x : (L187[0]).sh.den), execK E187 (lpOf L187) (nthLoop (codeOf Go.Proofs.Tryz.f187) 0) { κ with normal := fun σ => N (σ.keepAt (E187).hints 11) } ((L187[0]).sh.mk' x) = (L187[0]).R κ (fun x => N ((L187[0]).sh.mk' x)) x :=
  fun κ N x => by kernel_rfl
theorem C187_ok : QuietOk Go.Proofs.Tryz.prog 187 C187 :=
  told (env := E187) (fn := Go.Proofs.Tryz.f187) (c := (codeOf Go.Proofs.Tryz.f187)) (tbl := L187) (ls := [nthLoop (codeOf Go.Proofs.Tryz.f187) 0]) (vars := Go.Proofs.Tryz.f187.results.toList) Go.Proofs.Tryz.func187 (tysC_ok tys_ok rfl rfl) (Told.fnOk (.cons C199_ok (.cons C200_ok .nil)) rfl) (by kernel_rfl) (by decide) rfl (by decide) rfl rfl rfl (by kernel_rfl) (.cons L187[0] (by kernel_rfl) L187_11 .nil) (by kernel_rfl)

/- 171: strings.Split -/
noncomputable def F171 (a0 : List UInt8) (a1 : List UInt8) : Option (List (List UInt8) × Unit) :=
 (Option.bind (F187 a0 a1 (0 : Int) (-(1 : Int))) fun y0 =>
 (some (y0.1, ())))

noncomputable def C171 : Fun := ⟨[(.ro .str), (.ro .str)], [((.slice .str), .z)], fun z => F171 z.1 z.2.1⟩
noncomputable def E171 : Env := ⟨8, tyTab tys, oneTab ones, fnTab [(187, C187)], false, [], [(99999, [4], [])], none, []⟩
noncomputable def L171 : List (LoopS (List (List UInt8) × Unit)) := []
theorem C171_ok : QuietOk Go.Proofs.Tryz.prog 171 C171 :=
  told (env := E171) (fn := Go.Proofs.Tryz.f171) (c := (codeOf Go.Proofs.Tryz.f171)) (tbl := L171) (ls := []) (vars := Go.Proofs.Tryz.f171.results.toList) Go.Proofs.Tryz.func171 (tysC_ok tys_ok rfl rfl) (Told.fnOk (.cons C187_ok .nil) rfl) (by kernel_rfl) (by decide) rfl (by decide) rfl rfl rfl (by kernel_rfl) .nil (by kernel_rfl)

/- 188: slices.IndexFunc[[]string,string] -/
noncomputable def F188_R2 (e0_0 : Unit → Option (Int × Unit)) (er_1 : Int × Unit → Option (Int × Unit)) (rec : List (List UInt8) × (List UInt8 → Option (Bool)) × Int × Int × Unit → Option (Int × Unit)) (x2 : List (List UInt8) × (List UInt8 → Option (Bool)) × Int × Int × Unit) : Option (Int × Unit) :=
 (cond (decide (x2.2.2.2.1 < x2.2.2.1))
 (gd (decide ((0 : Int) ≤ x2.2.2.2.1))
 (Option.bind x2.1[(Int.toNat x2.2.2.2.1)]? fun y5 =>
 (Option.bind (x2.2.1 y5) fun y6 =>
 (cond y6
 (er_1 (x2.2.2.2.1, ()))
 (rec (x2.1, x2.2.1, x2.2.2.1, (IntKind.wrap IntKind.i64 (x2.2.2.2.1 + (1 : Int))), ()))))))
 (e0_0 (())))

noncomputable def F188 (a0 : List (List UInt8)) (a1 : (List UInt8 → Option (Bool))) : Option (Int × Unit) :=
 (iter (F188_R2
 (fun y7 =>
 (some ((-(1 : Int)), ())))
 (fun y8 =>
 (some (y8.1, ())))) fuel (a0, a1, (((List.length a0) : Nat) : Int), (0 : Int), ()))

noncomputable def C188 : Fun := ⟨[(.ro (.slice .str)), (.fn .str .bool)], [((.int .i64), .z)], fun z => F188 z.1 z.2.1⟩
noncomputable def E188 : Env := ⟨19, tyTab tys, oneTab ones, fnTab [], false, [], [(2, [0, 1, 7, 8], []), (3, [0, 1, 7, 8], []), (6, [0, 1, 7, 8], []), (7, [], []), (100000, [], []), (100001, [0, 1, 7, 8], []), (99999, [4], [])], none, []⟩
noncomputable def L188 : List (LoopS (Int × Unit)) := [⟨2, ⟨[(0, (.pv (.slice .str))), (1, (.fnA .str .bool)), (7, (.pv (.int .i64))), (8, (.pv (.int .i64)))], []⟩, fun κ => F188_R2 (fun y => κ.exit 0 (SSh.mk' ⟨[], []⟩ y)) (fun y => κ.ret (SSh.mk' ⟨[(4, (.pv (.int .i64)))], []⟩ y))⟩]
theorem L188_2 : ∀ (κ : Kont (Int × Unit)) (N : St → Option (Int × Unit)) (x : (L188[0]).sh.den), execK E188 (lpOf L188) (nthLoop (codeOf Go.Proofs.Tryz.f188) 0) { κ with normal := fun σ => N (σ.keepAt (E188).hints 2) } ((L188[0]).sh.mk' x) = (L188[0]).R κ (fun x => N ((L188[0]).sh.mk' x)) x :=
  fun κ N x => by kernel_rfl
theorem C188_ok : QuietOk Go.Proofs.Tryz.prog 188 C188 :=
  told (env := E188) (fn := Go.Proofs.Tryz.f188) (c := (codeOf Go.Proofs.Tryz.f188)) (tbl := L188) (ls := [nthLoop (codeOf Go.Proofs.Tryz.f188) 0]) (vars := Go.Proofs.Tryz.f188.results.toList) Go.Proofs.Tryz.func188 (tysC_ok tys_ok rfl rfl) (Told.fnOk .nil rfl) (by kernel_rfl) (by decide) rfl (by decide) rfl rfl rfl (by kernel_rfl) (.cons L188[0] (by kernel_rfl) L188_2 .nil) (by kernel_rfl)

/- 172: slices.ContainsFunc[[]string,string] -/
noncomputable def F172 (a0 : List (List UInt8)) (a1 : (List UInt8 → Option (Bool))) : Option (Bool × Unit) :=
 (Option.bind (F188 a0 a1) fun y0 =>
 (some ((decide (y0.1 ≥ (0 : Int))), ())))

noncomputable def C172 : Fun := ⟨[(.ro (.slice .str)), (.fn .str .bool)], [(.bool, .z)], fun z => F172 z.1 z.2.1⟩
noncomputable def E172 : Env := ⟨9, tyTab tys, oneTab ones, fnTab [(188, C188)], false, [], [(99999, [4], [])], none, []⟩
noncomputable def L172 : List (LoopS (Bool × Unit)) := []
theorem C172_ok : QuietOk Go.Proofs.Tryz.prog 172 C172 :=
  told (env := E172) (fn := Go.Proofs.Tryz.f172) (c := (codeOf Go.Proofs.Tryz.f172)) (tbl := L172) (ls := []) (vars := Go.Proofs.Tryz.f172.results.toList) Go.Proofs.Tryz.func172 (tysC_ok tys_ok rfl rfl) (Told.fnOk (.cons C188_ok .nil) rfl) (by kernel_rfl) (by decide) rfl (by decide) rfl rfl rfl (by kernel_rfl) .nil (by kernel_rfl)

/- 173: loop.example/g00380/impl.PathOK$1 -/
noncomputable def F173 (a0 : List UInt8) : Option (Bool × Unit) :=
 (Option.bind (F90 a0) fun y0 =>
 (some ((!y0.1), ())))

noncomputable def C173 : Fun := ⟨[(.ro .str)], [(.bool, .z)], fun z => F173 z.1⟩
noncomputable def E173 : Env := ⟨6, tyTab tys, oneTab ones, fnTab [(90, C90)], false, [], [(99999, [2], [])], none, []⟩
noncomputable def L173 : List (LoopS (Bool × Unit)) := []
theorem C173_ok : QuietOk Go.Proofs.Tryz.prog 173 C173 :=
  told (env := E173) (fn := Go.Proofs.Tryz.f173) (c := (codeOf Go.Proofs.Tryz.f173)) (tbl := L173) (ls := []) (vars := Go.Proofs.Tryz.f173.results.toList) Go.Proofs.Tryz.func173 (tysC_ok tys_ok rfl rfl) (Told.fnOk (.cons C90_ok .nil) rfl) (by kernel_rfl) (by decide) rfl (by decide) rfl rfl rfl (by kernel_rfl) .nil (by kernel_rfl)

/- 153: loop.example/g00380/impl.PathOK -/
noncomputable def F153 (a0 : List UInt8) : Option (Bool × Unit) :=
 (Option.bind (F171 a0 [(46 : UInt8)]) fun y0 =>
 (cond (decide ((((List.length a0) : Nat) : Int) ≤ (50 : Int)))
 (cond (decide ((((List.length y0.1) : Nat) : Int) ≤ (4 : Int)))
 (Option.bind (F172 y0.1 (fun (v3 : List UInt8) => (Option.map (fun (v4 : (Bool × Unit)) => v4.1) (F173 v3)))) fun y1 =>
 (some ((!y1.1), ())))
 (some (false, ())))
 (some (false, ()))))

noncomputable def C153 : Fun := ⟨[(.ro .str)], [(.bool, .z)], fun z => F153 z.1⟩
noncomputable def E153 : Env := ⟨19, tyTab tys, oneTab ones, fnTab [(171, C171), (172, C172), (173, C173)], false, [], [(99999, [2], [])], none, []⟩
noncomputable def L153 : List (LoopS (Bool × Unit)) := []
theorem C153_ok : QuietOk Go.Proofs.Tryz.prog 153 C153 :=
  told (env := E153) (fn := Go.Proofs.Tryz.f153) (c := (codeOf Go.Proofs.Tryz.f153)) (tbl := L153) (ls := []) (vars := Go.Proofs.Tryz.f153.results.toList) Go.Proofs.Tryz.func153 (tysC_ok tys_ok rfl rfl) (Told.fnOk (.cons C171_ok (.cons C172_ok (.cons C173_ok .nil))) rfl) (by kernel_rfl) (by decide) rfl (by decide) rfl rfl rfl (by kernel_rfl) .nil (by kernel_rfl)

/- 124: loop.example/g00380/impl.partOK -/
noncomputable def F124 (a0 : D181) : Option (Bool × Unit) :=
 (Option.bind (F153 a0.1) fun y0 =>
 (some (y0.1, ())))

noncomputable def C124 : Fun := ⟨[(.ro Y181)], [(.bool, .z)], fun z => F124 z.1⟩
noncomputable def E124 : Env := ⟨6, tyTab tys, oneTab ones, fnTab [(153, C153)], false, [], [(99999, [2], [])], none, []⟩
noncomputable def L124 : List (LoopS (Bool × Unit)) := []
theorem C124_ok : QuietOk Go.Proofs.Tryz.prog 124 C124 :=
  told (env := E124) (fn := Go.Proofs.Tryz.f124) (c := (codeOf Go.Proofs.Tryz.f124)) (tbl := L124) (ls := []) (vars := Go.Proofs.Tryz.f124.results.toList) Go.Proofs.Tryz.func124 (tysC_ok tys_ok rfl rfl) (Told.fnOk (.cons C153_ok .nil) rfl) (by kernel_rfl) (by decide) rfl (by decide) rfl rfl rfl (by kernel_rfl) .nil (by kernel_rfl)

/- 123: loop.example/g00380/impl.DefOK$1 -/
noncomputable def F123 (a0 : D181) : Option (Bool × Unit) :=
 (Option.bind (F124 a0) fun y0 =>
 (some ((!y0.1), ())))

noncomputable def C123 : Fun := ⟨[(.ro Y181)], [(.bool, .z)], fun z => F123 z.1⟩
noncomputable def E123 : Env := ⟨6, tyTab tys, oneTab ones, fnTab [(124, C124)], false, [], [(99999, [2], [])], none, []⟩
noncomputable def L123 : List (LoopS (Bool × Unit)) := []
theorem C123_ok : QuietOk Go.Proofs.Tryz.prog 123 C123 :=
  told (env := E123) (fn := Go.Proofs.Tryz.f123) (c := (codeOf Go.Proofs.Tryz.f123)) (tbl := L123) (ls := []) (vars := Go.Proofs.Tryz.f123.results.toList) Go.Proofs.Tryz.func123 (tysC_ok tys_ok rfl rfl) (Told.fnOk (.cons C124_ok .nil) rfl) (by kernel_rfl) (by decide) rfl (by decide) rfl rfl rfl (by kernel_rfl) .nil (by kernel_rfl)

/- 87: loop.example/g00380/impl.DefOK -/
noncomputable def F87 (a0 : D132) : Option (Bool × Unit) :=
 (Option.bind (F90 a0.1) fun y1 =>
 (cond (!y1.1)
 (some (false, ()))
 (Option.bind (F38 (((List.length a0.2.1) : Nat) : Int) (1 : Int) (2 : Int)) fun y2 =>
 (cond (!y2.1)
 (some (false, ()))
 (Option.bind (F122 a0.2.1 (fun (v5 : D181) => (Option.map (fun (v6 : (Bool × Unit)) => v6.1) (F123 v5)))) fun y3 =>
 (cond y3.1
 (some (false, ()))
 (cond ((((List.length a0.2.1) : Nat) : Int) == (1 : Int))
 (some (true, ()))
 (Option.bind a0.2.1[(Int.toNat (0 : Int))]? fun y4 =>
 (Option.bind a0.2.1[(Int.toNat (1 : Int))]? fun y5 =>
 (some ((!(y4.1 == y5.1)), ())))))))))))

noncomputable def C87 : Fun := ⟨[(.ro Y132)], [(.bool, .z)], fun z => F87 z.1⟩
noncomputable def E87 : Env := ⟨36, tyTab tys, oneTab ones, fnTab [(38, C38), (90, C90), (122, C122), (123, C123)], false, [], [(3, [1], []), (99999, [2], [])], none, []⟩
noncomputable def L87 : List (LoopS (Bool × Unit)) := []
theorem C87_ok : QuietOk Go.Proofs.Tryz.prog 87 C87 :=
  told (env := E87) (fn := Go.Proofs.Tryz.f87) (c := (codeOf Go.Proofs.Tryz.f87)) (tbl := L87) (ls := []) (vars := Go.Proofs.Tryz.f87.results.toList) Go.Proofs.Tryz.func87 (tysC_ok tys_ok rfl rfl) (Told.fnOk (.cons C38_ok (.cons C90_ok (.cons C122_ok (.cons C123_ok .nil)))) rfl) (by kernel_rfl) (by decide) rfl (by decide) rfl rfl rfl (by kernel_rfl) .nil (by kernel_rfl)

/- 125: slices.IndexFunc[[]loop.example/g00380/impl.Def,loop.example/g00380/impl.Def] -/
noncomputable def F125_R2 (e0_0 : Unit → Option (Int × Unit)) (er_1 : Int × Unit → Option (Int × Unit)) (rec : List (D132) × (D132 → Option (Bool)) × Int × Int × Unit → Option (Int × Unit)) (x2 : List (D132) × (D132 → Option (Bool)) × Int × Int × Unit) : Option (Int × Unit) :=
 (cond (decide (x2.2.2.2.1 < x2.2.2.1))
 (gd (decide ((0 : Int) ≤ x2.2.2.2.1))
 (Option.bind x2.1[(Int.toNat x2.2.2.2.1)]? fun y5 =>
 (Option.bind (x2.2.1 y5) fun y6 =>
 (cond y6
 (er_1 (x2.2.2.2.1, ()))
 (rec (x2.1, x2.2.1, x2.2.2.1, (IntKind.wrap IntKind.i64 (x2.2.2.2.1 + (1 : Int))), ()))))))
 (e0_0 (())))

noncomputable def F125 (a0 : List (D132)) (a1 : (D132 → Option (Bool))) : Option (Int × Unit) :=
 (iter (F125_R2
 (fun y7 =>
 (some ((-(1 : Int)), ())))
 (fun y8 =>
 (some (y8.1, ())))) fuel (a0, a1, (((List.length a0) : Nat) : Int), (0 : Int), ()))

noncomputable def C125 : Fun := ⟨[(.ro (.slice Y132)), (.fn Y132 .bool)], [((.int .i64), .z)], fun z => F125 z.1 z.2.1⟩
noncomputable def E125 : Env := ⟨19, tyTab tys, oneTab ones, fnTab [], false, [], [(2, [0, 1, 7, 8], []), (3, [0, 1, 7, 8], []), (6, [0, 1, 7, 8], []), (7, [], []), (100000, [], []), (100001, [0, 1, 7, 8], []), (99999, [4], [])], none, []⟩
noncomputable def L125 : List (LoopS (Int × Unit)) := [⟨2, ⟨[(0, (.pv (.slice Y132))), (1, (.fnA Y132 .bool)), (7, (.pv (.int .i64))), (8, (.pv (.int .i64)))], []⟩, fun κ => F125_R2 (fun y => κ.exit 0 (SSh.mk' ⟨[], []⟩ y)) (fun y => κ.ret (SSh.mk' ⟨[(4, (.pv (.int .i64)))], []⟩ y))⟩]
theorem L125_2 : ∀ (κ : Kont (Int × Unit)) (N : St → Option (Int × Unit)) (x : (L125[0]).sh.den), execK E125 (lpOf L125) (nthLoop (codeOf Go.Proofs.Tryz.f125) 0) { κ with normal := fun σ => N (σ.keepAt (E125).hints 2) } ((L125[0]).sh.mk' x) = (L125[0]).R κ (fun x => N ((L125[0]).sh.mk' x)) x :=
  fun κ N x => by kernel_rfl
theorem C125_ok : QuietOk Go.Proofs.Tryz.prog 125 C125 :=
  told (env := E125) (fn := Go.Proofs.Tryz.f125) (c := (codeOf Go.Proofs.Tryz.f125)) (tbl := L125) (ls := [nthLoop (codeOf Go.Proofs.Tryz.f125) 0]) (vars := Go.Proofs.Tryz.f125.results.toList) Go.Proofs.Tryz.func125 (tysC_ok tys_ok rfl rfl) (Told.fnOk .nil rfl) (by kernel_rfl) (by decide) rfl (by decide) rfl rfl rfl (by kernel_rfl) (.cons L125[0] (by kernel_rfl) L125_2 .nil) (by kernel_rfl)

/- 126: (loop.example/g00380/impl.Coll).defAt$1 -/
noncomputable def F126 (a0 : D132) (a1 : List UInt8) : Option (Bool × Unit) :=
 (some ((a0.1 == a1), ()))

noncomputable def C126 : Fun := ⟨[(.ro Y132), (.rp .str)], [(.bool, .z)], fun z => F126 z.1 z.2.1⟩
noncomputable def E126 : Env := ⟨8, tyTab tys, oneTab ones, fnTab [], false, [], [(99999, [3], [])], none, []⟩
noncomputable def L126 : List (LoopS (Bool × Unit)) := []
theorem C126_ok : QuietOk Go.Proofs.Tryz.prog 126 C126 :=
  told (env := E126) (fn := Go.Proofs.Tryz.f126) (c := (codeOf Go.Proofs.Tryz.f126)) (tbl := L126) (ls := []) (vars := Go.Proofs.Tryz.f126.results.toList) Go.Proofs.Tryz.func126 (tysC_ok tys_ok rfl rfl) (Told.fnOk .nil rfl) (by kernel_rfl) (by decide) rfl (by decide) rfl rfl rfl (by kernel_rfl) .nil (by kernel_rfl)

/- 88: (loop.example/g00380/impl.Coll).defAt -/
noncomputable def F88 (a0 : D54) (a1 : List UInt8) : Option (Int × Unit) :=
 (Option.bind (F125 a0.2.2.1 (fun (v3 : D132) => (Option.map (fun (v4 : (Bool × Unit)) => v4.1) (F126 v3 a1)))) fun y0 =>
 (some (y0.1, ())))

noncomputable def C88 : Fun := ⟨[(.ro Y54), (.ro .str)], [((.int .i64), .z)], fun z => F88 z.1 z.2.1⟩
noncomputable def E88 : Env := ⟨9, tyTab tys, oneTab ones, fnTab [(125, C125), (126, C126)], false, [], [(99999, [4], [])], none, []⟩
noncomputable def L88 : List (LoopS (Int × Unit)) := []
theorem C88_ok : QuietOk Go.Proofs.Tryz.prog 88 C88 :=
  told (env := E88) (fn := Go.Proofs.Tryz.f88) (c := (codeOf Go.Proofs.Tryz.f88)) (tbl := L88) (ls := []) (vars := Go.Proofs.Tryz.f88.results.toList) Go.Proofs.Tryz.func88 (tysC_ok tys_ok rfl rfl) (Told.fnOk (.cons C125_ok (.cons C126_ok .nil)) rfl) (by kernel_rfl) (by decide) rfl (by decide) rfl rfl rfl (by kernel_rfl) .nil (by kernel_rfl)

/- 94: loop.example/g00380/impl.isTime -/
noncomputable def F94 (a0 : Int) : Option (Bool × Unit) :=
 (Option.bind (F38 a0 (1 : Int) (10000 : Int)) fun y0 =>
 (some (y0.1, ())))

noncomputable def C94 : Fun := ⟨[(.ro (.int .i64))], [(.bool, .z)], fun z => F94 z.1⟩
noncomputable def E94 : Env := ⟨5, tyTab tys, oneTab ones, fnTab [(38, C38)], false, [], [(99999, [2], [])], none, []⟩
noncomputable def L94 : List (LoopS (Bool × Unit)) := []
theorem C94_ok : QuietOk Go.Proofs.Tryz.prog 94 C94 :=
  told (env := E94) (fn := Go.Proofs.Tryz.f94) (c := (codeOf Go.Proofs.Tryz.f94)) (tbl := L94) (ls := []) (vars := Go.Proofs.Tryz.f94.results.toList) Go.Proofs.Tryz.func94 (tysC_ok tys_ok rfl rfl) (Told.fnOk (.cons C38_ok .nil) rfl) (by kernel_rfl) (by decide) rfl (by decide) rfl rfl rfl (by kernel_rfl) .nil (by kernel_rfl)

/- 201: (*loop.example/g00380/impl.byteReader).take -/
noncomputable def F201 (a0 : D181) (a1 : Int) : Option (List UInt8 × D181 × Unit) :=
 (cond (decide (a1 > (((List.length a0.1) : Nat) : Int)))
 (Option.bind (F215 [(0 : UInt8)] a1) fun y1 =>
 (some (y1.1, ((a0.1, (true, a0.2.2)), ()))))
 (gd (decide ((0 : Int) ≤ a1))
 (gd (decide (a1 ≤ (((List.length a0.1) : Nat) : Int)))
 (gd (decide ((((List.length a0.1) : Nat) : Int) ≤ (((List.length a0.1) : Nat) : Int)))
 (gd (decide ((0 : Int) ≤ a1))
 (gd (decide (a1 ≤ (((Int.toNat (((List.length a0.1) : Nat) : Int)) : Nat) : Int)))
 (some ((List.drop (Int.toNat (0 : Int)) (List.take (Int.toNat a1) a0.1)), (((List.drop (Int.toNat a1) (List.take (Int.toNat (((List.length a0.1) : Nat) : Int)) a0.1)), a0.2), ())))))))))

noncomputable def C201 : Fun := ⟨[(.io Y181 .z), (.ro (.int .i64))], [(.str, .z)], fun z => F201 z.1 z.2.1⟩
noncomputable def E201 : Env := ⟨34, tyTab tys, oneTab ones, fnTab [(215, C215)], false, [], [(4, [0, 1], [4]), (99999, [4], [4])], none, []⟩
noncomputable def L201 : List (LoopS (List UInt8 × D181 × Unit)) := []
theorem C201_ok : IoOk Go.Proofs.Tryz.prog 201 C201 :=
  toldIo (env := E201) (fn := Go.Proofs.Tryz.f201) (c := (codeOf Go.Proofs.Tryz.f201)) (tbl := L201) (ls := []) (vars := Go.Proofs.Tryz.f201.results.toList) Go.Proofs.Tryz.func201 (tysC_ok tys_ok rfl rfl) (Told.fnOk (.cons C215_ok .nil) rfl) (by kernel_rfl) (by decide) rfl (by decide) rfl rfl rfl rfl (by kernel_rfl) (fun p => .nil) (fun p => by kernel_rfl)

/- 216: loop.example/g00380/impl.big -/
noncomputable def F216_R3 (e0_0 : Int × Unit → Option (Int × Unit)) (rec : Int × List (Int) × Int × Int × Unit → Option (Int × Unit)) (x2 : Int × List (Int) × Int × Int × Unit) : Option (Int × Unit) :=
 (cond (decide (x2.2.2.2.1 < x2.2.2.1))
 (gd (decide ((0 : Int) ≤ x2.2.2.2.1))
 (Option.bind x2.2.1[(Int.toNat x2.2.2.2.1)]? fun y4 =>
 (rec ((IntKind.wrap IntKind.i64 (((BitVec.toNat (HOr.hOr (BitVec.ofInt (IntKind.bits IntKind.i64) (IntKind.wrap IntKind.i64 (x2.1 * ((2 : Int) ^ (Min.min (Int.toNat (8 : Int)) (IntKind.bits IntKind.i64)))))) (BitVec.ofInt (IntKind.bits IntKind.i64) (IntKind.wrap IntKind.i64 y4)))) : Nat) : Int)), x2.2.1, x2.2.2.1, (IntKind.wrap IntKind.i64 (x2.2.2.2.1 + (1 : Int))), ()))))
 (e0_0 (x2.1, ())))

noncomputable def F216 (a0 : List (Int)) : Option (Int × Unit) :=
 (iter (F216_R3
 (fun y5 =>
 (some (y5.1, ())))) fuel ((0 : Int), a0, (((List.length a0) : Nat) : Int), (0 : Int), ()))

noncomputable def C216 : Fun := ⟨[(.ro (.slice (.int .u8)))], [((.int .i64), .z)], fun z => F216 z.1⟩
noncomputable def E216 : Env := ⟨19, tyTab tys, oneTab ones, fnTab [], false, [], [(3, [3, 6, 7, 8], []), (4, [3, 6, 7, 8], []), (7, [3], []), (100000, [3], []), (100001, [3, 6, 7, 8], []), (99999, [2], [])], none, []⟩
noncomputable def L216 : List (LoopS (Int × Unit)) := [⟨3, ⟨[(3, (.pv (.int .i64))), (6, (.pv (.slice (.int .u8)))), (7, (.pv (.int .i64))), (8, (.pv (.int .i64)))], []⟩, fun κ => F216_R3 (fun y => κ.exit 0 (SSh.mk' ⟨[(3, (.pv (.int .i64)))], []⟩ y))⟩]
theorem L216_3 : ∀ (κ : Kont (Int × Unit)) (N : St → Option (Int × Unit)) (x : (L216[0]).sh.den), execK E216 (lpOf L216) (nthLoop (codeOf Go.Proofs.Tryz.f216) 0) { κ with normal := fun σ => N (σ.keepAt (E216).hints 3) } ((L216[0]).sh.mk' x) = (L216[0]).R κ (fun x => N ((L216[0]).sh.mk' x)) x :=
  fun κ N x => by kernel_rfl
theorem C216_ok : QuietOk Go.Proofs.Tryz.prog 216 C216 :=
  told (env := E216) (fn := Go.Proofs.Tryz.f216) (c := (codeOf Go.Proofs.Tryz.f216)) (tbl := L216) (ls := [nthLoop (codeOf Go.Proofs.Tryz.f216) 0]) (vars := Go.Proofs.Tryz.f216.results.toList) Go.Proofs.Tryz.func216 (tysC_ok tys_ok rfl rfl) (Told.fnOk .nil rfl) (by kernel_rfl) (by decide) rfl (by decide) rfl rfl rfl (by kernel_rfl) (.cons L216[0] (by kernel_rfl) L216_3 .nil) (by kernel_rfl)

/- 202: (*loop.example/g00380/impl.byteReader).num -/
noncomputable def F202 (a0 : D181) (a1 : Int) : Option (Int × D181 × Unit) :=
 (Option.bind (F201 a0 a1) fun y0 =>
 (Option.bind (F216 (List.map (fun (v4 : UInt8) => (((UInt8.toNat v4) : Nat) : Int)) y0.1)) fun y1 =>
 (some (y1.1, (y0.2.1, ())))))

noncomputable def C202 : Fun := ⟨[(.io Y181 .z), (.ro (.int .i64))], [((.int .i64), .z)], fun z => F202 z.1 z.2.1⟩
noncomputable def E202 : Env := ⟨10, tyTab tys, oneTab ones, fnTab [(201, C201), (216, C216)], false, [], [(99999, [4], [4])], none, []⟩
noncomputable def L202 : List (LoopS (Int × D181 × Unit)) := []
theorem C202_ok : IoOk Go.Proofs.Tryz.prog 202 C202 :=
  toldIo (env := E202) (fn := Go.Proofs.Tryz.f202) (c := (codeOf Go.Proofs.Tryz.f202)) (tbl := L202) (ls := []) (vars := Go.Proofs.Tryz.f202.results.toList) Go.Proofs.Tryz.func202 (tysC_ok tys_ok rfl rfl) (Told.fnOk (.consIo C201_ok (.cons C216_ok .nil)) rfl) (by kernel_rfl) (by decide) rfl (by decide) rfl rfl rfl rfl (by kernel_rfl) (fun p => .nil) (fun p => by kernel_rfl)

/- 203: (*loop.example/g00380/impl.byteReader).value -/
noncomputable def F203 (a0 : D181) : Option (D59 × D181 × Unit) :=
 (Option.bind (F202 a0 (1 : Int)) fun y0 =>
 (let j11 : D181 × D59 × D59 × Unit → Option (D59 × D181 × Unit) := fun (y12 : D181 × D59 × D59 × Unit) =>
 (some (y12.2.2.1, (y12.1, ())))
 (cond (y0.1 == (1 : Int))
 (Option.bind (F202 y0.2.1 (1 : Int)) fun y2 =>
 (j11 (y2.2.1, ((0 : Int), ((0 : Int), ([], ()))), (y0.1, (y2.1, ([], ()))), ())))
 (cond (y0.1 == (2 : Int))
 (Option.bind (F202 y0.2.1 (8 : Int)) fun y3 =>
 (j11 (y3.2.1, ((0 : Int), ((0 : Int), ([], ()))), (y0.1, ((IntKind.wrap IntKind.i64 (y3.1 - (4611686018427387904 : Int))), ([], ()))), ())))
 (cond (y0.1 == (3 : Int))
 (cond (y0.1 == (3 : Int))
 (Option.bind (F202 y0.2.1 (2 : Int)) fun y5 =>
 (Option.bind (F201 y5.2.1 y5.1) fun y6 =>
 (j11 (y6.2.1, ((0 : Int), ((0 : Int), ([], ()))), (y0.1, ((0 : Int), (y6.1, ()))), ()))))
 (j11 (y0.2.1, ((0 : Int), ((0 : Int), ([], ()))), (y0.1, ((0 : Int), ([], ()))), ())))
 (cond (y0.1 == (4 : Int))
 (cond (y0.1 == (4 : Int))
 (Option.bind (F202 y0.2.1 (2 : Int)) fun y7 =>
 (Option.bind (F201 y7.2.1 y7.1) fun y8 =>
 (j11 (y8.2.1, ((0 : Int), ((0 : Int), ([], ()))), (y0.1, ((0 : Int), (y8.1, ()))), ()))))
 (j11 (y0.2.1, ((0 : Int), ((0 : Int), ([], ()))), (y0.1, ((0 : Int), ([], ()))), ())))
 (cond (y0.1 == (5 : Int))
 (Option.bind (F202 y0.2.1 (2 : Int)) fun y9 =>
 (Option.bind (F201 y9.2.1 y9.1) fun y10 =>
 (j11 (y10.2.1, ((0 : Int), ((0 : Int), ([], ()))), (y0.1, ((0 : Int), (y10.1, ()))), ()))))
 (j11 (y0.2.1, ((0 : Int), ((0 : Int), ([], ()))), (y0.1, ((0 : Int), ([], ()))), ())))))))))

noncomputable def C203 : Fun := ⟨[(.io Y181 .z)], [(Y59, .z)], fun z => F203 z.1⟩
noncomputable def E203 : Env := ⟨30, tyTab tys, oneTab ones, fnTab [(201, C201), (202, C202)], false, [], [(11, [2, 3], [4]), (100000, [2, 3], [4]), (99999, [2], [4])], none, []⟩
noncomputable def L203 : List (LoopS (D59 × D181 × Unit)) := []
theorem C203_ok : IoOk Go.Proofs.Tryz.prog 203 C203 :=
  toldIo (env := E203) (fn := Go.Proofs.Tryz.f203) (c := (codeOf Go.Proofs.Tryz.f203)) (tbl := L203) (ls := []) (vars := Go.Proofs.Tryz.f203.results.toList) Go.Proofs.Tryz.func203 (tysC_ok tys_ok rfl rfl) (Told.fnOk (.consIo C201_ok (.consIo C202_ok .nil)) rfl) (by kernel_rfl) (by decide) rfl (by decide) rfl rfl rfl rfl (by kernel_rfl) (fun p => .nil) (fun p => by kernel_rfl)

/- 189: loop.example/g00380/impl.fields -/
noncomputable def F189_R2 (e0_0 : D181 × List (D238) × Unit → Option (List (D238) × Bool × Unit)) (rec : D181 × List (D238) × Unit → Option (List (D238) × Bool × Unit)) (x2 : D181 × List (D238) × Unit) : Option (List (D238) × Bool × Unit) :=
 (cond (!(x2.1.1 == []))
 (cond (!x2.1.2.1)
 (Option.bind (F202 x2.1 (1 : Int)) fun y4 =>
 (Option.bind (F201 y4.2.1 y4.1) fun y5 =>
 (Option.bind (F203 y5.2.1) fun y6 =>
 (gd (decide (((List.length x2.2.1) + (List.length [(y5.1, (y6.1, ()))])) ≤ lim))
 (rec (y6.2.1, (x2.2.1 ++ [(y5.1, (y6.1, ()))]), ()))))))
 (e0_0 (x2.1, x2.2.1, ())))
 (e0_0 (x2.1, x2.2.1, ())))

noncomputable def F189 (a0 : D59) : Option (List (D238) × Bool × Unit) :=
 (iter (F189_R2
 (fun y7 =>
 (some (y7.2.1, ((!y7.1.2.1), ()))))) fuel ((a0.2.2.1, (false, ())), [], ()))

noncomputable def C189 : Fun := ⟨[(.ro Y59)], [((.slice Y238), .z), (.bool, .z)], fun z => F189 z.1⟩
noncomputable def E189 : Env := ⟨39, tyTab tys, oneTab ones, fnTab [(201, C201), (202, C202), (203, C203)], false, [], [(2, [4, 5], []), (3, [4, 5], []), (4, [4, 5], []), (100000, [4, 5], []), (100001, [4, 5], []), (99999, [2, 3], [])], none, []⟩
noncomputable def L189 : List (LoopS (List (D238) × Bool × Unit)) := [⟨2, ⟨[(4, (.ptr 72 [])), (5, (.ref (.slice Y238) 80 []))], [(72, (.data true Y181 .z)), (80, (.data false (.slice Y238) (.own .z)))]⟩, fun κ => F189_R2 (fun y => κ.exit 0 (SSh.mk' ⟨[(4, (.ptr 72 [])), (5, (.ref (.slice Y238) 80 []))], [(72, (.data true Y181 .z)), (80, (.data false (.slice Y238) (.own .z)))]⟩ y))⟩]
theorem L189_2 : ∀ (κ : Kont (List (D238) × Bool × Unit)) (N : St → Option (List (D238) × Bool × Unit)) (x : (L189[0]).sh.den), execK E189 (lpOf L189) (nthLoop (codeOf Go.Proofs.Tryz.f189) 0) { κ with normal := fun σ => N (σ.keepAt (E189).hints 2) } ((L189[0]).sh.mk' x) = (L189[0]).R κ (fun x => N ((L189[0]).sh.mk' x)) x :=
  fun κ N x => by kernel_rfl
theorem C189_ok : QuietOk Go.Proofs.Tryz.prog 189 C189 :=
  told (env := E189) (fn := Go.Proofs.Tryz.f189) (c := (codeOf Go.Proofs.Tryz.f189)) (tbl := L189) (ls := [nthLoop (codeOf Go.Proofs.Tryz.f189) 0]) (vars := Go.Proofs.Tryz.f189.results.toList) Go.Proofs.Tryz.func189 (tysC_ok tys_ok rfl rfl) (Told.fnOk (.consIo C201_ok (.consIo C202_ok (.consIo C203_ok .nil))) rfl) (by kernel_rfl) (by decide) rfl (by decide) rfl rfl rfl (by kernel_rfl) (.cons L189[0] (by kernel_rfl) L189_2 .nil) (by kernel_rfl)

/- 160: internal/bytealg.CompareString -/
noncomputable def F160 (a0 : List UInt8) (a1 : List UInt8) : Option (Int × Unit) :=
 (Option.bind (F181 a0 a1) fun y0 =>
 (some (y0.1, ())))

noncomputable def C160 : Fun := ⟨[(.ro .str), (.ro .str)], [((.int .i64), .z)], fun z => F160 z.1 z.2.1⟩
noncomputable def E160 : Env := ⟨8, tyTab tys, oneTab ones, fnTab [], false, [], [(99999, [4], [])], none, [(181, C181)]⟩
noncomputable def L160 : List (LoopS (Int × Unit)) := []
theorem C160_ok : QuietOk Go.Proofs.Tryz.prog 160 C160 :=
  told (env := E160) (fn := Go.Proofs.Tryz.f160) (c := (codeOf Go.Proofs.Tryz.f160)) (tbl := L160) (ls := []) (vars := Go.Proofs.Tryz.f160.results.toList) Go.Proofs.Tryz.func160 (tysC_ok tys_ok rfl rfl) (Told.fnOk .nil rfl (.cons C181_ok .nil)) (by kernel_rfl) (by decide) rfl (by decide) rfl rfl rfl (by kernel_rfl) .nil (by kernel_rfl)

end Go.V
