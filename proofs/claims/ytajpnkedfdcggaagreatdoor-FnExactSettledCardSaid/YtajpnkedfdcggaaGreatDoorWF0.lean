/- What functions of the program compute, printed by a program of ours. No condition. -/
import Derived.Test.YtajpnkedfdcggaaGreatDoorWRep
namespace Go.V
set_option maxRecDepth 100000
set_option linter.unusedVariables false

/- 111: loop.example/g00380/laws.szValue -/
noncomputable def F111 (a0 : D59) (a1 : Int) : Option (Int × Unit) :=
 (cond (decide ((IntKind.wrap IntKind.i64 (a1 - (((List.length a0.2.2.1) : Nat) : Int))) < (0 : Int)))
 (some ((-(1 : Int)), ()))
 (some ((IntKind.wrap IntKind.i64 (a1 - (((List.length a0.2.2.1) : Nat) : Int))), ())))

noncomputable def C111 : Fun := ⟨[(.ro Y59), (.ro (.int .i64))], [((.int .i64), .z)], fun z => F111 z.1 z.2.1⟩
noncomputable def E111 : Env := ⟨13, tyTab tys, oneTab ones, fnTab [], false, [], [(4, [1], []), (99999, [4], [])], none, []⟩
noncomputable def L111 : List (LoopS (Int × Unit)) := []
theorem C111_ok : QuietOk Go.Proofs.Tryz.prog 111 C111 :=
  told (env := E111) (fn := Go.Proofs.Tryz.f111) (c := (codeOf Go.Proofs.Tryz.f111)) (tbl := L111) (ls := []) (vars := Go.Proofs.Tryz.f111.results.toList) Go.Proofs.Tryz.func111 (tysC_ok tys_ok rfl rfl) (Told.fnOk .nil rfl) (by kernel_rfl) (by decide) rfl (by decide) rfl rfl rfl (by kernel_rfl) .nil (by kernel_rfl)

/- 142: loop.example/g00380/laws.szVersion -/
noncomputable def F142 (a0 : D61) (a1 : Int) : Option (Int × Unit) :=
 (Option.bind (F111 a0.2.2.1 a1) fun y0 =>
 (cond (decide (y0.1 < (0 : Int)))
 (some ((-(1 : Int)), ()))
 (some (y0.1, ()))))

noncomputable def C142 : Fun := ⟨[(.ro Y61), (.ro (.int .i64))], [((.int .i64), .z)], fun z => F142 z.1 z.2.1⟩
noncomputable def E142 : Env := ⟨12, tyTab tys, oneTab ones, fnTab [(111, C111)], false, [], [(4, [1], []), (99999, [4], [])], none, []⟩
noncomputable def L142 : List (LoopS (Int × Unit)) := []
theorem C142_ok : QuietOk Go.Proofs.Tryz.prog 142 C142 :=
  told (env := E142) (fn := Go.Proofs.Tryz.f142) (c := (codeOf Go.Proofs.Tryz.f142)) (tbl := L142) (ls := []) (vars := Go.Proofs.Tryz.f142.results.toList) Go.Proofs.Tryz.func142 (tysC_ok tys_ok rfl rfl) (Told.fnOk (.cons C111_ok .nil) rfl) (by kernel_rfl) (by decide) rfl (by decide) rfl rfl rfl (by kernel_rfl) .nil (by kernel_rfl)

/- 108: loop.example/g00380/laws.szVersionS -/
noncomputable def F108_R5 (e0_0 : Int × Unit → Option (Int × Unit)) (er_1 : Int × Unit → Option (Int × Unit)) (rec : List (D61) × Int × Int × Unit → Option (Int × Unit)) (x3 : List (D61) × Int × Int × Unit) : Option (Int × Unit) :=
 (cond (decide (x3.2.2.1 < (((List.length x3.1) : Nat) : Int)))
 (gd (decide ((0 : Int) ≤ x3.2.2.1))
 (Option.bind x3.1[(Int.toNat x3.2.2.1)]? fun y6 =>
 (Option.bind (F142 y6 x3.2.1) fun y7 =>
 (cond (decide (y7.1 < (0 : Int)))
 (er_1 ((-(1 : Int)), ()))
 (rec (x3.1, y7.1, (IntKind.wrap IntKind.i64 (x3.2.2.1 + (1 : Int))), ()))))))
 (e0_0 (x3.2.1, ())))

noncomputable def F108 (a0 : List (D61)) (a1 : Int) : Option (Int × Unit) :=
 (cond (decide ((IntKind.wrap IntKind.i64 (a1 - (((List.length a0) : Nat) : Int))) < (0 : Int)))
 (some ((-(1 : Int)), ()))
 (iter (F108_R5
 (fun y8 =>
 (some (y8.1, ())))
 (fun y9 =>
 (some (y9.1, ())))) fuel (a0, (IntKind.wrap IntKind.i64 (a1 - (((List.length a0) : Nat) : Int))), (0 : Int), ())))

noncomputable def C108 : Fun := ⟨[(.ro (.slice Y61)), (.ro (.int .i64))], [((.int .i64), .z)], fun z => F108 z.1 z.2.1⟩
noncomputable def E108 : Env := ⟨27, tyTab tys, oneTab ones, fnTab [(142, C142)], false, [], [(4, [0, 1], []), (5, [0, 1, 5], []), (6, [0, 1, 5], []), (7, [0, 1, 5], []), (10, [1], []), (100000, [1], []), (100001, [0, 1, 5], []), (99999, [4], [])], none, []⟩
noncomputable def L108 : List (LoopS (Int × Unit)) := [⟨5, ⟨[(0, (.pv (.slice Y61))), (1, (.pv (.int .i64))), (5, (.pv (.int .i64)))], []⟩, fun κ => F108_R5 (fun y => κ.exit 0 (SSh.mk' ⟨[(1, (.pv (.int .i64)))], []⟩ y)) (fun y => κ.ret (SSh.mk' ⟨[(4, (.pv (.int .i64)))], []⟩ y))⟩]
theorem L108_5 : ∀ (κ : Kont (Int × Unit)) (N : St → Option (Int × Unit)) (x : (L108[0]).sh.den), execK E108 (lpOf L108) (nthLoop (codeOf Go.Proofs.Tryz.f108) 0) { κ with normal := fun σ => N (σ.keepAt (E108).hints 5) } ((L108[0]).sh.mk' x) = (L108[0]).R κ (fun x => N ((L108[0]).sh.mk' x)) x :=
  fun κ N x => by kernel_rfl
theorem C108_ok : QuietOk Go.Proofs.Tryz.prog 108 C108 :=
  told (env := E108) (fn := Go.Proofs.Tryz.f108) (c := (codeOf Go.Proofs.Tryz.f108)) (tbl := L108) (ls := [nthLoop (codeOf Go.Proofs.Tryz.f108) 0]) (vars := Go.Proofs.Tryz.f108.results.toList) Go.Proofs.Tryz.func108 (tysC_ok tys_ok rfl rfl) (Told.fnOk (.cons C142_ok .nil) rfl) (by kernel_rfl) (by decide) rfl (by decide) rfl rfl rfl (by kernel_rfl) (.cons L108[0] (by kernel_rfl) L108_5 .nil) (by kernel_rfl)

/- 72: loop.example/g00380/laws.szChain -/
noncomputable def F72 (a0 : D57) (a1 : Int) : Option (Int × Unit) :=
 (Option.bind (F108 a0.2.1 a1) fun y0 =>
 (cond (decide (y0.1 < (0 : Int)))
 (some ((-(1 : Int)), ()))
 (some (y0.1, ()))))

noncomputable def C72 : Fun := ⟨[(.ro Y57), (.ro (.int .i64))], [((.int .i64), .z)], fun z => F72 z.1 z.2.1⟩
noncomputable def E72 : Env := ⟨12, tyTab tys, oneTab ones, fnTab [(108, C108)], false, [], [(4, [1], []), (99999, [4], [])], none, []⟩
noncomputable def L72 : List (LoopS (Int × Unit)) := []
theorem C72_ok : QuietOk Go.Proofs.Tryz.prog 72 C72 :=
  told (env := E72) (fn := Go.Proofs.Tryz.f72) (c := (codeOf Go.Proofs.Tryz.f72)) (tbl := L72) (ls := []) (vars := Go.Proofs.Tryz.f72.results.toList) Go.Proofs.Tryz.func72 (tysC_ok tys_ok rfl rfl) (Told.fnOk (.cons C108_ok .nil) rfl) (by kernel_rfl) (by decide) rfl (by decide) rfl rfl rfl (by kernel_rfl) .nil (by kernel_rfl)

/- 45: loop.example/g00380/laws.szChainS -/
noncomputable def F45_R5 (e0_0 : Int × Unit → Option (Int × Unit)) (er_1 : Int × Unit → Option (Int × Unit)) (rec : List (D57) × Int × Int × Unit → Option (Int × Unit)) (x3 : List (D57) × Int × Int × Unit) : Option (Int × Unit) :=
 (cond (decide (x3.2.2.1 < (((List.length x3.1) : Nat) : Int)))
 (gd (decide ((0 : Int) ≤ x3.2.2.1))
 (Option.bind x3.1[(Int.toNat x3.2.2.1)]? fun y6 =>
 (Option.bind (F72 y6 x3.2.1) fun y7 =>
 (cond (decide (y7.1 < (0 : Int)))
 (er_1 ((-(1 : Int)), ()))
 (rec (x3.1, y7.1, (IntKind.wrap IntKind.i64 (x3.2.2.1 + (1 : Int))), ()))))))
 (e0_0 (x3.2.1, ())))

noncomputable def F45 (a0 : List (D57)) (a1 : Int) : Option (Int × Unit) :=
 (cond (decide ((IntKind.wrap IntKind.i64 (a1 - (((List.length a0) : Nat) : Int))) < (0 : Int)))
 (some ((-(1 : Int)), ()))
 (iter (F45_R5
 (fun y8 =>
 (some (y8.1, ())))
 (fun y9 =>
 (some (y9.1, ())))) fuel (a0, (IntKind.wrap IntKind.i64 (a1 - (((List.length a0) : Nat) : Int))), (0 : Int), ())))

noncomputable def C45 : Fun := ⟨[(.ro (.slice Y57)), (.ro (.int .i64))], [((.int .i64), .z)], fun z => F45 z.1 z.2.1⟩
noncomputable def E45 : Env := ⟨27, tyTab tys, oneTab ones, fnTab [(72, C72)], false, [], [(4, [0, 1], []), (5, [0, 1, 5], []), (6, [0, 1, 5], []), (7, [0, 1, 5], []), (10, [1], []), (100000, [1], []), (100001, [0, 1, 5], []), (99999, [4], [])], none, []⟩
noncomputable def L45 : List (LoopS (Int × Unit)) := [⟨5, ⟨[(0, (.pv (.slice Y57))), (1, (.pv (.int .i64))), (5, (.pv (.int .i64)))], []⟩, fun κ => F45_R5 (fun y => κ.exit 0 (SSh.mk' ⟨[(1, (.pv (.int .i64)))], []⟩ y)) (fun y => κ.ret (SSh.mk' ⟨[(4, (.pv (.int .i64)))], []⟩ y))⟩]
theorem L45_5 : ∀ (κ : Kont (Int × Unit)) (N : St → Option (Int × Unit)) (x : (L45[0]).sh.den), execK E45 (lpOf L45) (nthLoop (codeOf Go.Proofs.Tryz.f45) 0) { κ with normal := fun σ => N (σ.keepAt (E45).hints 5) } ((L45[0]).sh.mk' x) = (L45[0]).R κ (fun x => N ((L45[0]).sh.mk' x)) x :=
  fun κ N x => by kernel_rfl
theorem C45_ok : QuietOk Go.Proofs.Tryz.prog 45 C45 :=
  told (env := E45) (fn := Go.Proofs.Tryz.f45) (c := (codeOf Go.Proofs.Tryz.f45)) (tbl := L45) (ls := [nthLoop (codeOf Go.Proofs.Tryz.f45) 0]) (vars := Go.Proofs.Tryz.f45.results.toList) Go.Proofs.Tryz.func45 (tysC_ok tys_ok rfl rfl) (Told.fnOk (.cons C72_ok .nil) rfl) (by kernel_rfl) (by decide) rfl (by decide) rfl rfl rfl (by kernel_rfl) (.cons L45[0] (by kernel_rfl) L45_5 .nil) (by kernel_rfl)

/- 143: loop.example/g00380/laws.szPart -/
noncomputable def F143 (a0 : D181) (a1 : Int) : Option (Int × Unit) :=
 (cond (decide ((IntKind.wrap IntKind.i64 (a1 - (((List.length a0.1) : Nat) : Int))) < (0 : Int)))
 (some ((-(1 : Int)), ()))
 (some ((IntKind.wrap IntKind.i64 (a1 - (((List.length a0.1) : Nat) : Int))), ())))

noncomputable def C143 : Fun := ⟨[(.ro Y181), (.ro (.int .i64))], [((.int .i64), .z)], fun z => F143 z.1 z.2.1⟩
noncomputable def E143 : Env := ⟨13, tyTab tys, oneTab ones, fnTab [], false, [], [(4, [1], []), (99999, [4], [])], none, []⟩
noncomputable def L143 : List (LoopS (Int × Unit)) := []
theorem C143_ok : QuietOk Go.Proofs.Tryz.prog 143 C143 :=
  told (env := E143) (fn := Go.Proofs.Tryz.f143) (c := (codeOf Go.Proofs.Tryz.f143)) (tbl := L143) (ls := []) (vars := Go.Proofs.Tryz.f143.results.toList) Go.Proofs.Tryz.func143 (tysC_ok tys_ok rfl rfl) (Told.fnOk .nil rfl) (by kernel_rfl) (by decide) rfl (by decide) rfl rfl rfl (by kernel_rfl) .nil (by kernel_rfl)

/- 109: loop.example/g00380/laws.szPartS -/
noncomputable def F109_R5 (e0_0 : Int × Unit → Option (Int × Unit)) (er_1 : Int × Unit → Option (Int × Unit)) (rec : List (D181) × Int × Int × Unit → Option (Int × Unit)) (x3 : List (D181) × Int × Int × Unit) : Option (Int × Unit) :=
 (cond (decide (x3.2.2.1 < (((List.length x3.1) : Nat) : Int)))
 (gd (decide ((0 : Int) ≤ x3.2.2.1))
 (Option.bind x3.1[(Int.toNat x3.2.2.1)]? fun y6 =>
 (Option.bind (F143 y6 x3.2.1) fun y7 =>
 (cond (decide (y7.1 < (0 : Int)))
 (er_1 ((-(1 : Int)), ()))
 (rec (x3.1, y7.1, (IntKind.wrap IntKind.i64 (x3.2.2.1 + (1 : Int))), ()))))))
 (e0_0 (x3.2.1, ())))

noncomputable def F109 (a0 : List (D181)) (a1 : Int) : Option (Int × Unit) :=
 (cond (decide ((IntKind.wrap IntKind.i64 (a1 - (((List.length a0) : Nat) : Int))) < (0 : Int)))
 (some ((-(1 : Int)), ()))
 (iter (F109_R5
 (fun y8 =>
 (some (y8.1, ())))
 (fun y9 =>
 (some (y9.1, ())))) fuel (a0, (IntKind.wrap IntKind.i64 (a1 - (((List.length a0) : Nat) : Int))), (0 : Int), ())))

noncomputable def C109 : Fun := ⟨[(.ro (.slice Y181)), (.ro (.int .i64))], [((.int .i64), .z)], fun z => F109 z.1 z.2.1⟩
noncomputable def E109 : Env := ⟨27, tyTab tys, oneTab ones, fnTab [(143, C143)], false, [], [(4, [0, 1], []), (5, [0, 1, 5], []), (6, [0, 1, 5], []), (7, [0, 1, 5], []), (10, [1], []), (100000, [1], []), (100001, [0, 1, 5], []), (99999, [4], [])], none, []⟩
noncomputable def L109 : List (LoopS (Int × Unit)) := [⟨5, ⟨[(0, (.pv (.slice Y181))), (1, (.pv (.int .i64))), (5, (.pv (.int .i64)))], []⟩, fun κ => F109_R5 (fun y => κ.exit 0 (SSh.mk' ⟨[(1, (.pv (.int .i64)))], []⟩ y)) (fun y => κ.ret (SSh.mk' ⟨[(4, (.pv (.int .i64)))], []⟩ y))⟩]
theorem L109_5 : ∀ (κ : Kont (Int × Unit)) (N : St → Option (Int × Unit)) (x : (L109[0]).sh.den), execK E109 (lpOf L109) (nthLoop (codeOf Go.Proofs.Tryz.f109) 0) { κ with normal := fun σ => N (σ.keepAt (E109).hints 5) } ((L109[0]).sh.mk' x) = (L109[0]).R κ (fun x => N ((L109[0]).sh.mk' x)) x :=
  fun κ N x => by kernel_rfl
theorem C109_ok : QuietOk Go.Proofs.Tryz.prog 109 C109 :=
  told (env := E109) (fn := Go.Proofs.Tryz.f109) (c := (codeOf Go.Proofs.Tryz.f109)) (tbl := L109) (ls := [nthLoop (codeOf Go.Proofs.Tryz.f109) 0]) (vars := Go.Proofs.Tryz.f109.results.toList) Go.Proofs.Tryz.func109 (tysC_ok tys_ok rfl rfl) (Told.fnOk (.cons C143_ok .nil) rfl) (by kernel_rfl) (by decide) rfl (by decide) rfl rfl rfl (by kernel_rfl) (.cons L109[0] (by kernel_rfl) L109_5 .nil) (by kernel_rfl)

/- 73: loop.example/g00380/laws.szDef -/
noncomputable def F73 (a0 : D132) (a1 : Int) : Option (Int × Unit) :=
 (cond (decide ((IntKind.wrap IntKind.i64 (a1 - (((List.length a0.1) : Nat) : Int))) < (0 : Int)))
 (some ((-(1 : Int)), ()))
 (Option.bind (F109 a0.2.1 (IntKind.wrap IntKind.i64 (a1 - (((List.length a0.1) : Nat) : Int)))) fun y1 =>
 (cond (decide (y1.1 < (0 : Int)))
 (some ((-(1 : Int)), ()))
 (some (y1.1, ())))))

noncomputable def C73 : Fun := ⟨[(.ro Y132), (.ro (.int .i64))], [((.int .i64), .z)], fun z => F73 z.1 z.2.1⟩
noncomputable def E73 : Env := ⟨19, tyTab tys, oneTab ones, fnTab [(109, C109)], false, [], [(4, [1, 2], []), (7, [1], []), (99999, [4], [])], none, []⟩
noncomputable def L73 : List (LoopS (Int × Unit)) := []
theorem C73_ok : QuietOk Go.Proofs.Tryz.prog 73 C73 :=
  told (env := E73) (fn := Go.Proofs.Tryz.f73) (c := (codeOf Go.Proofs.Tryz.f73)) (tbl := L73) (ls := []) (vars := Go.Proofs.Tryz.f73.results.toList) Go.Proofs.Tryz.func73 (tysC_ok tys_ok rfl rfl) (Told.fnOk (.cons C109_ok .nil) rfl) (by kernel_rfl) (by decide) rfl (by decide) rfl rfl rfl (by kernel_rfl) .nil (by kernel_rfl)

/- 46: loop.example/g00380/laws.szDefS -/
noncomputable def F46_R5 (e0_0 : Int × Unit → Option (Int × Unit)) (er_1 : Int × Unit → Option (Int × Unit)) (rec : List (D132) × Int × Int × Unit → Option (Int × Unit)) (x3 : List (D132) × Int × Int × Unit) : Option (Int × Unit) :=
 (cond (decide (x3.2.2.1 < (((List.length x3.1) : Nat) : Int)))
 (gd (decide ((0 : Int) ≤ x3.2.2.1))
 (Option.bind x3.1[(Int.toNat x3.2.2.1)]? fun y6 =>
 (Option.bind (F73 y6 x3.2.1) fun y7 =>
 (cond (decide (y7.1 < (0 : Int)))
 (er_1 ((-(1 : Int)), ()))
 (rec (x3.1, y7.1, (IntKind.wrap IntKind.i64 (x3.2.2.1 + (1 : Int))), ()))))))
 (e0_0 (x3.2.1, ())))

noncomputable def F46 (a0 : List (D132)) (a1 : Int) : Option (Int × Unit) :=
 (cond (decide ((IntKind.wrap IntKind.i64 (a1 - (((List.length a0) : Nat) : Int))) < (0 : Int)))
 (some ((-(1 : Int)), ()))
 (iter (F46_R5
 (fun y8 =>
 (some (y8.1, ())))
 (fun y9 =>
 (some (y9.1, ())))) fuel (a0, (IntKind.wrap IntKind.i64 (a1 - (((List.length a0) : Nat) : Int))), (0 : Int), ())))

noncomputable def C46 : Fun := ⟨[(.ro (.slice Y132)), (.ro (.int .i64))], [((.int .i64), .z)], fun z => F46 z.1 z.2.1⟩
noncomputable def E46 : Env := ⟨27, tyTab tys, oneTab ones, fnTab [(73, C73)], false, [], [(4, [0, 1], []), (5, [0, 1, 5], []), (6, [0, 1, 5], []), (7, [0, 1, 5], []), (10, [1], []), (100000, [1], []), (100001, [0, 1, 5], []), (99999, [4], [])], none, []⟩
noncomputable def L46 : List (LoopS (Int × Unit)) := [⟨5, ⟨[(0, (.pv (.slice Y132))), (1, (.pv (.int .i64))), (5, (.pv (.int .i64)))], []⟩, fun κ => F46_R5 (fun y => κ.exit 0 (SSh.mk' ⟨[(1, (.pv (.int .i64)))], []⟩ y)) (fun y => κ.ret (SSh.mk' ⟨[(4, (.pv (.int .i64)))], []⟩ y))⟩]
theorem L46_5 : ∀ (κ : Kont (Int × Unit)) (N : St → Option (Int × Unit)) (x : (L46[0]).sh.den), execK E46 (lpOf L46) (nthLoop (codeOf Go.Proofs.Tryz.f46) 0) { κ with normal := fun σ => N (σ.keepAt (E46).hints 5) } ((L46[0]).sh.mk' x) = (L46[0]).R κ (fun x => N ((L46[0]).sh.mk' x)) x :=
  fun κ N x => by kernel_rfl
theorem C46_ok : QuietOk Go.Proofs.Tryz.prog 46 C46 :=
  told (env := E46) (fn := Go.Proofs.Tryz.f46) (c := (codeOf Go.Proofs.Tryz.f46)) (tbl := L46) (ls := [nthLoop (codeOf Go.Proofs.Tryz.f46) 0]) (vars := Go.Proofs.Tryz.f46.results.toList) Go.Proofs.Tryz.func46 (tysC_ok tys_ok rfl rfl) (Told.fnOk (.cons C73_ok .nil) rfl) (by kernel_rfl) (by decide) rfl (by decide) rfl rfl rfl (by kernel_rfl) (.cons L46[0] (by kernel_rfl) L46_5 .nil) (by kernel_rfl)

/- 25: loop.example/g00380/laws.szColl -/
noncomputable def F25 (a0 : D54) (a1 : Int) : Option (Int × Unit) :=
 (cond (decide ((IntKind.wrap IntKind.i64 (a1 - (((List.length a0.1) : Nat) : Int))) < (0 : Int)))
 (some ((-(1 : Int)), ()))
 (Option.bind (F45 a0.2.1 (IntKind.wrap IntKind.i64 (a1 - (((List.length a0.1) : Nat) : Int)))) fun y1 =>
 (cond (decide (y1.1 < (0 : Int)))
 (some ((-(1 : Int)), ()))
 (Option.bind (F46 a0.2.2.1 y1.1) fun y3 =>
 (cond (decide (y3.1 < (0 : Int)))
 (some ((-(1 : Int)), ()))
 (some (y3.1, ())))))))

noncomputable def C25 : Fun := ⟨[(.ro Y54), (.ro (.int .i64))], [((.int .i64), .z)], fun z => F25 z.1 z.2.1⟩
noncomputable def E25 : Env := ⟨25, tyTab tys, oneTab ones, fnTab [(45, C45), (46, C46)], false, [], [(4, [1, 2], []), (7, [1, 2], []), (10, [1], []), (99999, [4], [])], none, []⟩
noncomputable def L25 : List (LoopS (Int × Unit)) := []
theorem C25_ok : QuietOk Go.Proofs.Tryz.prog 25 C25 :=
  told (env := E25) (fn := Go.Proofs.Tryz.f25) (c := (codeOf Go.Proofs.Tryz.f25)) (tbl := L25) (ls := []) (vars := Go.Proofs.Tryz.f25.results.toList) Go.Proofs.Tryz.func25 (tysC_ok tys_ok rfl rfl) (Told.fnOk (.cons C45_ok (.cons C46_ok .nil)) rfl) (by kernel_rfl) (by decide) rfl (by decide) rfl rfl rfl (by kernel_rfl) .nil (by kernel_rfl)

/- 12: loop.example/g00380/laws.szCollS -/
noncomputable def F12_R5 (e0_0 : Int × Unit → Option (Int × Unit)) (er_1 : Int × Unit → Option (Int × Unit)) (rec : List (D54) × Int × Int × Unit → Option (Int × Unit)) (x3 : List (D54) × Int × Int × Unit) : Option (Int × Unit) :=
 (cond (decide (x3.2.2.1 < (((List.length x3.1) : Nat) : Int)))
 (gd (decide ((0 : Int) ≤ x3.2.2.1))
 (Option.bind x3.1[(Int.toNat x3.2.2.1)]? fun y6 =>
 (Option.bind (F25 y6 x3.2.1) fun y7 =>
 (cond (decide (y7.1 < (0 : Int)))
 (er_1 ((-(1 : Int)), ()))
 (rec (x3.1, y7.1, (IntKind.wrap IntKind.i64 (x3.2.2.1 + (1 : Int))), ()))))))
 (e0_0 (x3.2.1, ())))

noncomputable def F12 (a0 : List (D54)) (a1 : Int) : Option (Int × Unit) :=
 (cond (decide ((IntKind.wrap IntKind.i64 (a1 - (((List.length a0) : Nat) : Int))) < (0 : Int)))
 (some ((-(1 : Int)), ()))
 (iter (F12_R5
 (fun y8 =>
 (some (y8.1, ())))
 (fun y9 =>
 (some (y9.1, ())))) fuel (a0, (IntKind.wrap IntKind.i64 (a1 - (((List.length a0) : Nat) : Int))), (0 : Int), ())))

noncomputable def C12 : Fun := ⟨[(.ro (.slice Y54)), (.ro (.int .i64))], [((.int .i64), .z)], fun z => F12 z.1 z.2.1⟩
noncomputable def E12 : Env := ⟨27, tyTab tys, oneTab ones, fnTab [(25, C25)], false, [], [(4, [0, 1], []), (5, [0, 1, 5], []), (6, [0, 1, 5], []), (7, [0, 1, 5], []), (10, [1], []), (100000, [1], []), (100001, [0, 1, 5], []), (99999, [4], [])], none, []⟩
noncomputable def L12 : List (LoopS (Int × Unit)) := [⟨5, ⟨[(0, (.pv (.slice Y54))), (1, (.pv (.int .i64))), (5, (.pv (.int .i64)))], []⟩, fun κ => F12_R5 (fun y => κ.exit 0 (SSh.mk' ⟨[(1, (.pv (.int .i64)))], []⟩ y)) (fun y => κ.ret (SSh.mk' ⟨[(4, (.pv (.int .i64)))], []⟩ y))⟩]
theorem L12_5 : ∀ (κ : Kont (Int × Unit)) (N : St → Option (Int × Unit)) (x : (L12[0]).sh.den), execK E12 (lpOf L12) (nthLoop (codeOf Go.Proofs.Tryz.f12) 0) { κ with normal := fun σ => N (σ.keepAt (E12).hints 5) } ((L12[0]).sh.mk' x) = (L12[0]).R κ (fun x => N ((L12[0]).sh.mk' x)) x :=
  fun κ N x => by kernel_rfl
theorem C12_ok : QuietOk Go.Proofs.Tryz.prog 12 C12 :=
  told (env := E12) (fn := Go.Proofs.Tryz.f12) (c := (codeOf Go.Proofs.Tryz.f12)) (tbl := L12) (ls := [nthLoop (codeOf Go.Proofs.Tryz.f12) 0]) (vars := Go.Proofs.Tryz.f12.results.toList) Go.Proofs.Tryz.func12 (tysC_ok tys_ok rfl rfl) (Told.fnOk (.cons C25_ok .nil) rfl) (by kernel_rfl) (by decide) rfl (by decide) rfl rfl rfl (by kernel_rfl) (.cons L12[0] (by kernel_rfl) L12_5 .nil) (by kernel_rfl)

/- 195: loop.example/g00380/laws.szTerm -/
noncomputable def F195 (a0 : D189) (a1 : Int) : Option (Int × Unit) :=
 (cond (decide ((IntKind.wrap IntKind.i64 (a1 - (((List.length a0.2.1) : Nat) : Int))) < (0 : Int)))
 (some ((-(1 : Int)), ()))
 (Option.bind (F111 a0.2.2.1 (IntKind.wrap IntKind.i64 (a1 - (((List.length a0.2.1) : Nat) : Int)))) fun y1 =>
 (cond (decide (y1.1 < (0 : Int)))
 (some ((-(1 : Int)), ()))
 (some (y1.1, ())))))

noncomputable def C195 : Fun := ⟨[(.ro Y189), (.ro (.int .i64))], [((.int .i64), .z)], fun z => F195 z.1 z.2.1⟩
noncomputable def E195 : Env := ⟨19, tyTab tys, oneTab ones, fnTab [(111, C111)], false, [], [(4, [1, 2], []), (7, [1], []), (99999, [4], [])], none, []⟩
noncomputable def L195 : List (LoopS (Int × Unit)) := []
theorem C195_ok : QuietOk Go.Proofs.Tryz.prog 195 C195 :=
  told (env := E195) (fn := Go.Proofs.Tryz.f195) (c := (codeOf Go.Proofs.Tryz.f195)) (tbl := L195) (ls := []) (vars := Go.Proofs.Tryz.f195.results.toList) Go.Proofs.Tryz.func195 (tysC_ok tys_ok rfl rfl) (Told.fnOk (.cons C111_ok .nil) rfl) (by kernel_rfl) (by decide) rfl (by decide) rfl rfl rfl (by kernel_rfl) .nil (by kernel_rfl)

/- 183: loop.example/g00380/laws.szTermS -/
noncomputable def F183_R5 (e0_0 : Int × Unit → Option (Int × Unit)) (er_1 : Int × Unit → Option (Int × Unit)) (rec : List (D189) × Int × Int × Unit → Option (Int × Unit)) (x3 : List (D189) × Int × Int × Unit) : Option (Int × Unit) :=
 (cond (decide (x3.2.2.1 < (((List.length x3.1) : Nat) : Int)))
 (gd (decide ((0 : Int) ≤ x3.2.2.1))
 (Option.bind x3.1[(Int.toNat x3.2.2.1)]? fun y6 =>
 (Option.bind (F195 y6 x3.2.1) fun y7 =>
 (cond (decide (y7.1 < (0 : Int)))
 (er_1 ((-(1 : Int)), ()))
 (rec (x3.1, y7.1, (IntKind.wrap IntKind.i64 (x3.2.2.1 + (1 : Int))), ()))))))
 (e0_0 (x3.2.1, ())))

noncomputable def F183 (a0 : List (D189)) (a1 : Int) : Option (Int × Unit) :=
 (cond (decide ((IntKind.wrap IntKind.i64 (a1 - (((List.length a0) : Nat) : Int))) < (0 : Int)))
 (some ((-(1 : Int)), ()))
 (iter (F183_R5
 (fun y8 =>
 (some (y8.1, ())))
 (fun y9 =>
 (some (y9.1, ())))) fuel (a0, (IntKind.wrap IntKind.i64 (a1 - (((List.length a0) : Nat) : Int))), (0 : Int), ())))

noncomputable def C183 : Fun := ⟨[(.ro (.slice Y189)), (.ro (.int .i64))], [((.int .i64), .z)], fun z => F183 z.1 z.2.1⟩
noncomputable def E183 : Env := ⟨27, tyTab tys, oneTab ones, fnTab [(195, C195)], false, [], [(4, [0, 1], []), (5, [0, 1, 5], []), (6, [0, 1, 5], []), (7, [0, 1, 5], []), (10, [1], []), (100000, [1], []), (100001, [0, 1, 5], []), (99999, [4], [])], none, []⟩
noncomputable def L183 : List (LoopS (Int × Unit)) := [⟨5, ⟨[(0, (.pv (.slice Y189))), (1, (.pv (.int .i64))), (5, (.pv (.int .i64)))], []⟩, fun κ => F183_R5 (fun y => κ.exit 0 (SSh.mk' ⟨[(1, (.pv (.int .i64)))], []⟩ y)) (fun y => κ.ret (SSh.mk' ⟨[(4, (.pv (.int .i64)))], []⟩ y))⟩]
theorem L183_5 : ∀ (κ : Kont (Int × Unit)) (N : St → Option (Int × Unit)) (x : (L183[0]).sh.den), execK E183 (lpOf L183) (nthLoop (codeOf Go.Proofs.Tryz.f183) 0) { κ with normal := fun σ => N (σ.keepAt (E183).hints 5) } ((L183[0]).sh.mk' x) = (L183[0]).R κ (fun x => N ((L183[0]).sh.mk' x)) x :=
  fun κ N x => by kernel_rfl
theorem C183_ok : QuietOk Go.Proofs.Tryz.prog 183 C183 :=
  told (env := E183) (fn := Go.Proofs.Tryz.f183) (c := (codeOf Go.Proofs.Tryz.f183)) (tbl := L183) (ls := [nthLoop (codeOf Go.Proofs.Tryz.f183) 0]) (vars := Go.Proofs.Tryz.f183.results.toList) Go.Proofs.Tryz.func183 (tysC_ok tys_ok rfl rfl) (Told.fnOk (.cons C195_ok .nil) rfl) (by kernel_rfl) (by decide) rfl (by decide) rfl rfl rfl (by kernel_rfl) (.cons L183[0] (by kernel_rfl) L183_5 .nil) (by kernel_rfl)

/- 165: loop.example/g00380/laws.szClause -/
noncomputable def F165 (a0 : D186) (a1 : Int) : Option (Int × Unit) :=
 (Option.bind (F183 a0.1 a1) fun y0 =>
 (cond (decide (y0.1 < (0 : Int)))
 (some ((-(1 : Int)), ()))
 (some (y0.1, ()))))

noncomputable def C165 : Fun := ⟨[(.ro Y186), (.ro (.int .i64))], [((.int .i64), .z)], fun z => F165 z.1 z.2.1⟩
noncomputable def E165 : Env := ⟨12, tyTab tys, oneTab ones, fnTab [(183, C183)], false, [], [(4, [1], []), (99999, [4], [])], none, []⟩
noncomputable def L165 : List (LoopS (Int × Unit)) := []
theorem C165_ok : QuietOk Go.Proofs.Tryz.prog 165 C165 :=
  told (env := E165) (fn := Go.Proofs.Tryz.f165) (c := (codeOf Go.Proofs.Tryz.f165)) (tbl := L165) (ls := []) (vars := Go.Proofs.Tryz.f165.results.toList) Go.Proofs.Tryz.func165 (tysC_ok tys_ok rfl rfl) (Told.fnOk (.cons C183_ok .nil) rfl) (by kernel_rfl) (by decide) rfl (by decide) rfl rfl rfl (by kernel_rfl) .nil (by kernel_rfl)

/- 144: loop.example/g00380/laws.szClauseS -/
noncomputable def F144_R5 (e0_0 : Int × Unit → Option (Int × Unit)) (er_1 : Int × Unit → Option (Int × Unit)) (rec : List (D186) × Int × Int × Unit → Option (Int × Unit)) (x3 : List (D186) × Int × Int × Unit) : Option (Int × Unit) :=
 (cond (decide (x3.2.2.1 < (((List.length x3.1) : Nat) : Int)))
 (gd (decide ((0 : Int) ≤ x3.2.2.1))
 (Option.bind x3.1[(Int.toNat x3.2.2.1)]? fun y6 =>
 (Option.bind (F165 y6 x3.2.1) fun y7 =>
 (cond (decide (y7.1 < (0 : Int)))
 (er_1 ((-(1 : Int)), ()))
 (rec (x3.1, y7.1, (IntKind.wrap IntKind.i64 (x3.2.2.1 + (1 : Int))), ()))))))
 (e0_0 (x3.2.1, ())))

noncomputable def F144 (a0 : List (D186)) (a1 : Int) : Option (Int × Unit) :=
 (cond (decide ((IntKind.wrap IntKind.i64 (a1 - (((List.length a0) : Nat) : Int))) < (0 : Int)))
 (some ((-(1 : Int)), ()))
 (iter (F144_R5
 (fun y8 =>
 (some (y8.1, ())))
 (fun y9 =>
 (some (y9.1, ())))) fuel (a0, (IntKind.wrap IntKind.i64 (a1 - (((List.length a0) : Nat) : Int))), (0 : Int), ())))

noncomputable def C144 : Fun := ⟨[(.ro (.slice Y186)), (.ro (.int .i64))], [((.int .i64), .z)], fun z => F144 z.1 z.2.1⟩
noncomputable def E144 : Env := ⟨27, tyTab tys, oneTab ones, fnTab [(165, C165)], false, [], [(4, [0, 1], []), (5, [0, 1, 5], []), (6, [0, 1, 5], []), (7, [0, 1, 5], []), (10, [1], []), (100000, [1], []), (100001, [0, 1, 5], []), (99999, [4], [])], none, []⟩
noncomputable def L144 : List (LoopS (Int × Unit)) := [⟨5, ⟨[(0, (.pv (.slice Y186))), (1, (.pv (.int .i64))), (5, (.pv (.int .i64)))], []⟩, fun κ => F144_R5 (fun y => κ.exit 0 (SSh.mk' ⟨[(1, (.pv (.int .i64)))], []⟩ y)) (fun y => κ.ret (SSh.mk' ⟨[(4, (.pv (.int .i64)))], []⟩ y))⟩]
theorem L144_5 : ∀ (κ : Kont (Int × Unit)) (N : St → Option (Int × Unit)) (x : (L144[0]).sh.den), execK E144 (lpOf L144) (nthLoop (codeOf Go.Proofs.Tryz.f144) 0) { κ with normal := fun σ => N (σ.keepAt (E144).hints 5) } ((L144[0]).sh.mk' x) = (L144[0]).R κ (fun x => N ((L144[0]).sh.mk' x)) x :=
  fun κ N x => by kernel_rfl
theorem C144_ok : QuietOk Go.Proofs.Tryz.prog 144 C144 :=
  told (env := E144) (fn := Go.Proofs.Tryz.f144) (c := (codeOf Go.Proofs.Tryz.f144)) (tbl := L144) (ls := [nthLoop (codeOf Go.Proofs.Tryz.f144) 0]) (vars := Go.Proofs.Tryz.f144.results.toList) Go.Proofs.Tryz.func144 (tysC_ok tys_ok rfl rfl) (Told.fnOk (.cons C165_ok .nil) rfl) (by kernel_rfl) (by decide) rfl (by decide) rfl rfl rfl (by kernel_rfl) (.cons L144[0] (by kernel_rfl) L144_5 .nil) (by kernel_rfl)

/- 110: loop.example/g00380/laws.szFilter -/
noncomputable def F110 (a0 : D108) (a1 : Int) : Option (Int × Unit) :=
 (Option.bind (F144 a0.1 a1) fun y0 =>
 (cond (decide (y0.1 < (0 : Int)))
 (some ((-(1 : Int)), ()))
 (some (y0.1, ()))))

noncomputable def C110 : Fun := ⟨[(.ro Y108), (.ro (.int .i64))], [((.int .i64), .z)], fun z => F110 z.1 z.2.1⟩
noncomputable def E110 : Env := ⟨12, tyTab tys, oneTab ones, fnTab [(144, C144)], false, [], [(4, [1], []), (99999, [4], [])], none, []⟩
noncomputable def L110 : List (LoopS (Int × Unit)) := []
theorem C110_ok : QuietOk Go.Proofs.Tryz.prog 110 C110 :=
  told (env := E110) (fn := Go.Proofs.Tryz.f110) (c := (codeOf Go.Proofs.Tryz.f110)) (tbl := L110) (ls := []) (vars := Go.Proofs.Tryz.f110.results.toList) Go.Proofs.Tryz.func110 (tysC_ok tys_ok rfl rfl) (Told.fnOk (.cons C144_ok .nil) rfl) (by kernel_rfl) (by decide) rfl (by decide) rfl rfl rfl (by kernel_rfl) .nil (by kernel_rfl)

/- 74: loop.example/g00380/laws.szRead -/
noncomputable def F74 (a0 : D110) (a1 : Int) : Option (Int × Unit) :=
 (cond (decide ((IntKind.wrap IntKind.i64 (a1 - (((List.length a0.1) : Nat) : Int))) < (0 : Int)))
 (some ((-(1 : Int)), ()))
 (Option.bind (F110 a0.2.1 (IntKind.wrap IntKind.i64 (a1 - (((List.length a0.1) : Nat) : Int)))) fun y1 =>
 (cond (decide (y1.1 < (0 : Int)))
 (some ((-(1 : Int)), ()))
 (some (y1.1, ())))))

noncomputable def C74 : Fun := ⟨[(.ro Y110), (.ro (.int .i64))], [((.int .i64), .z)], fun z => F74 z.1 z.2.1⟩
noncomputable def E74 : Env := ⟨19, tyTab tys, oneTab ones, fnTab [(110, C110)], false, [], [(4, [1, 2], []), (7, [1], []), (99999, [4], [])], none, []⟩
noncomputable def L74 : List (LoopS (Int × Unit)) := []
theorem C74_ok : QuietOk Go.Proofs.Tryz.prog 74 C74 :=
  told (env := E74) (fn := Go.Proofs.Tryz.f74) (c := (codeOf Go.Proofs.Tryz.f74)) (tbl := L74) (ls := []) (vars := Go.Proofs.Tryz.f74.results.toList) Go.Proofs.Tryz.func74 (tysC_ok tys_ok rfl rfl) (Told.fnOk (.cons C110_ok .nil) rfl) (by kernel_rfl) (by decide) rfl (by decide) rfl rfl rfl (by kernel_rfl) .nil (by kernel_rfl)

/- 47: loop.example/g00380/laws.szReadS -/
noncomputable def F47_R5 (e0_0 : Int × Unit → Option (Int × Unit)) (er_1 : Int × Unit → Option (Int × Unit)) (rec : List (D110) × Int × Int × Unit → Option (Int × Unit)) (x3 : List (D110) × Int × Int × Unit) : Option (Int × Unit) :=
 (cond (decide (x3.2.2.1 < (((List.length x3.1) : Nat) : Int)))
 (gd (decide ((0 : Int) ≤ x3.2.2.1))
 (Option.bind x3.1[(Int.toNat x3.2.2.1)]? fun y6 =>
 (Option.bind (F74 y6 x3.2.1) fun y7 =>
 (cond (decide (y7.1 < (0 : Int)))
 (er_1 ((-(1 : Int)), ()))
 (rec (x3.1, y7.1, (IntKind.wrap IntKind.i64 (x3.2.2.1 + (1 : Int))), ()))))))
 (e0_0 (x3.2.1, ())))

noncomputable def F47 (a0 : List (D110)) (a1 : Int) : Option (Int × Unit) :=
 (cond (decide ((IntKind.wrap IntKind.i64 (a1 - (((List.length a0) : Nat) : Int))) < (0 : Int)))
 (some ((-(1 : Int)), ()))
 (iter (F47_R5
 (fun y8 =>
 (some (y8.1, ())))
 (fun y9 =>
 (some (y9.1, ())))) fuel (a0, (IntKind.wrap IntKind.i64 (a1 - (((List.length a0) : Nat) : Int))), (0 : Int), ())))

noncomputable def C47 : Fun := ⟨[(.ro (.slice Y110)), (.ro (.int .i64))], [((.int .i64), .z)], fun z => F47 z.1 z.2.1⟩
noncomputable def E47 : Env := ⟨27, tyTab tys, oneTab ones, fnTab [(74, C74)], false, [], [(4, [0, 1], []), (5, [0, 1, 5], []), (6, [0, 1, 5], []), (7, [0, 1, 5], []), (10, [1], []), (100000, [1], []), (100001, [0, 1, 5], []), (99999, [4], [])], none, []⟩
noncomputable def L47 : List (LoopS (Int × Unit)) := [⟨5, ⟨[(0, (.pv (.slice Y110))), (1, (.pv (.int .i64))), (5, (.pv (.int .i64)))], []⟩, fun κ => F47_R5 (fun y => κ.exit 0 (SSh.mk' ⟨[(1, (.pv (.int .i64)))], []⟩ y)) (fun y => κ.ret (SSh.mk' ⟨[(4, (.pv (.int .i64)))], []⟩ y))⟩]
theorem L47_5 : ∀ (κ : Kont (Int × Unit)) (N : St → Option (Int × Unit)) (x : (L47[0]).sh.den), execK E47 (lpOf L47) (nthLoop (codeOf Go.Proofs.Tryz.f47) 0) { κ with normal := fun σ => N (σ.keepAt (E47).hints 5) } ((L47[0]).sh.mk' x) = (L47[0]).R κ (fun x => N ((L47[0]).sh.mk' x)) x :=
  fun κ N x => by kernel_rfl
theorem C47_ok : QuietOk Go.Proofs.Tryz.prog 47 C47 :=
  told (env := E47) (fn := Go.Proofs.Tryz.f47) (c := (codeOf Go.Proofs.Tryz.f47)) (tbl := L47) (ls := [nthLoop (codeOf Go.Proofs.Tryz.f47) 0]) (vars := Go.Proofs.Tryz.f47.results.toList) Go.Proofs.Tryz.func47 (tysC_ok tys_ok rfl rfl) (Told.fnOk (.cons C74_ok .nil) rfl) (by kernel_rfl) (by decide) rfl (by decide) rfl rfl rfl (by kernel_rfl) (.cons L47[0] (by kernel_rfl) L47_5 .nil) (by kernel_rfl)

/- 75: loop.example/g00380/laws.szWrite -/
noncomputable def F75 (a0 : D86) (a1 : Int) : Option (Int × Unit) :=
 (cond (decide ((IntKind.wrap IntKind.i64 (a1 - (((List.length a0.1) : Nat) : Int))) < (0 : Int)))
 (some ((-(1 : Int)), ()))
 (Option.bind (F111 a0.2.2.2.1 (IntKind.wrap IntKind.i64 (a1 - (((List.length a0.1) : Nat) : Int)))) fun y1 =>
 (cond (decide (y1.1 < (0 : Int)))
 (some ((-(1 : Int)), ()))
 (some (y1.1, ())))))

noncomputable def C75 : Fun := ⟨[(.ro Y86), (.ro (.int .i64))], [((.int .i64), .z)], fun z => F75 z.1 z.2.1⟩
noncomputable def E75 : Env := ⟨19, tyTab tys, oneTab ones, fnTab [(111, C111)], false, [], [(4, [1, 2], []), (7, [1], []), (99999, [4], [])], none, []⟩
noncomputable def L75 : List (LoopS (Int × Unit)) := []
theorem C75_ok : QuietOk Go.Proofs.Tryz.prog 75 C75 :=
  told (env := E75) (fn := Go.Proofs.Tryz.f75) (c := (codeOf Go.Proofs.Tryz.f75)) (tbl := L75) (ls := []) (vars := Go.Proofs.Tryz.f75.results.toList) Go.Proofs.Tryz.func75 (tysC_ok tys_ok rfl rfl) (Told.fnOk (.cons C111_ok .nil) rfl) (by kernel_rfl) (by decide) rfl (by decide) rfl rfl rfl (by kernel_rfl) .nil (by kernel_rfl)

/- 48: loop.example/g00380/laws.szWriteS -/
noncomputable def F48_R5 (e0_0 : Int × Unit → Option (Int × Unit)) (er_1 : Int × Unit → Option (Int × Unit)) (rec : List (D86) × Int × Int × Unit → Option (Int × Unit)) (x3 : List (D86) × Int × Int × Unit) : Option (Int × Unit) :=
 (cond (decide (x3.2.2.1 < (((List.length x3.1) : Nat) : Int)))
 (gd (decide ((0 : Int) ≤ x3.2.2.1))
 (Option.bind x3.1[(Int.toNat x3.2.2.1)]? fun y6 =>
 (Option.bind (F75 y6 x3.2.1) fun y7 =>
 (cond (decide (y7.1 < (0 : Int)))
 (er_1 ((-(1 : Int)), ()))
 (rec (x3.1, y7.1, (IntKind.wrap IntKind.i64 (x3.2.2.1 + (1 : Int))), ()))))))
 (e0_0 (x3.2.1, ())))

noncomputable def F48 (a0 : List (D86)) (a1 : Int) : Option (Int × Unit) :=
 (cond (decide ((IntKind.wrap IntKind.i64 (a1 - (((List.length a0) : Nat) : Int))) < (0 : Int)))
 (some ((-(1 : Int)), ()))
 (iter (F48_R5
 (fun y8 =>
 (some (y8.1, ())))
 (fun y9 =>
 (some (y9.1, ())))) fuel (a0, (IntKind.wrap IntKind.i64 (a1 - (((List.length a0) : Nat) : Int))), (0 : Int), ())))

noncomputable def C48 : Fun := ⟨[(.ro (.slice Y86)), (.ro (.int .i64))], [((.int .i64), .z)], fun z => F48 z.1 z.2.1⟩
noncomputable def E48 : Env := ⟨27, tyTab tys, oneTab ones, fnTab [(75, C75)], false, [], [(4, [0, 1], []), (5, [0, 1, 5], []), (6, [0, 1, 5], []), (7, [0, 1, 5], []), (10, [1], []), (100000, [1], []), (100001, [0, 1, 5], []), (99999, [4], [])], none, []⟩
noncomputable def L48 : List (LoopS (Int × Unit)) := [⟨5, ⟨[(0, (.pv (.slice Y86))), (1, (.pv (.int .i64))), (5, (.pv (.int .i64)))], []⟩, fun κ => F48_R5 (fun y => κ.exit 0 (SSh.mk' ⟨[(1, (.pv (.int .i64)))], []⟩ y)) (fun y => κ.ret (SSh.mk' ⟨[(4, (.pv (.int .i64)))], []⟩ y))⟩]
theorem L48_5 : ∀ (κ : Kont (Int × Unit)) (N : St → Option (Int × Unit)) (x : (L48[0]).sh.den), execK E48 (lpOf L48) (nthLoop (codeOf Go.Proofs.Tryz.f48) 0) { κ with normal := fun σ => N (σ.keepAt (E48).hints 5) } ((L48[0]).sh.mk' x) = (L48[0]).R κ (fun x => N ((L48[0]).sh.mk' x)) x :=
  fun κ N x => by kernel_rfl
theorem C48_ok : QuietOk Go.Proofs.Tryz.prog 48 C48 :=
  told (env := E48) (fn := Go.Proofs.Tryz.f48) (c := (codeOf Go.Proofs.Tryz.f48)) (tbl := L48) (ls := [nthLoop (codeOf Go.Proofs.Tryz.f48) 0]) (vars := Go.Proofs.Tryz.f48.results.toList) Go.Proofs.Tryz.func48 (tysC_ok tys_ok rfl rfl) (Told.fnOk (.cons C75_ok .nil) rfl) (by kernel_rfl) (by decide) rfl (by decide) rfl rfl rfl (by kernel_rfl) (.cons L48[0] (by kernel_rfl) L48_5 .nil) (by kernel_rfl)

/- 26: loop.example/g00380/laws.szTxn -/
noncomputable def F26 (a0 : D71) (a1 : Int) : Option (Int × Unit) :=
 (Option.bind (F47 a0.2.2.1 a1) fun y0 =>
 (cond (decide (y0.1 < (0 : Int)))
 (some ((-(1 : Int)), ()))
 (Option.bind (F48 a0.2.2.2.1 y0.1) fun y2 =>
 (cond (decide (y2.1 < (0 : Int)))
 (some ((-(1 : Int)), ()))
 (some (y2.1, ()))))))

noncomputable def C26 : Fun := ⟨[(.ro Y71), (.ro (.int .i64))], [((.int .i64), .z)], fun z => F26 z.1 z.2.1⟩
noncomputable def E26 : Env := ⟨18, tyTab tys, oneTab ones, fnTab [(47, C47), (48, C48)], false, [], [(4, [1, 2], []), (7, [1], []), (99999, [4], [])], none, []⟩
noncomputable def L26 : List (LoopS (Int × Unit)) := []
theorem C26_ok : QuietOk Go.Proofs.Tryz.prog 26 C26 :=
  told (env := E26) (fn := Go.Proofs.Tryz.f26) (c := (codeOf Go.Proofs.Tryz.f26)) (tbl := L26) (ls := []) (vars := Go.Proofs.Tryz.f26.results.toList) Go.Proofs.Tryz.func26 (tysC_ok tys_ok rfl rfl) (Told.fnOk (.cons C47_ok (.cons C48_ok .nil)) rfl) (by kernel_rfl) (by decide) rfl (by decide) rfl rfl rfl (by kernel_rfl) .nil (by kernel_rfl)

/- 13: loop.example/g00380/laws.szTxnS -/
noncomputable def F13_R5 (e0_0 : Int × Unit → Option (Int × Unit)) (er_1 : Int × Unit → Option (Int × Unit)) (rec : List (D71) × Int × Int × Unit → Option (Int × Unit)) (x3 : List (D71) × Int × Int × Unit) : Option (Int × Unit) :=
 (cond (decide (x3.2.2.1 < (((List.length x3.1) : Nat) : Int)))
 (gd (decide ((0 : Int) ≤ x3.2.2.1))
 (Option.bind x3.1[(Int.toNat x3.2.2.1)]? fun y6 =>
 (Option.bind (F26 y6 x3.2.1) fun y7 =>
 (cond (decide (y7.1 < (0 : Int)))
 (er_1 ((-(1 : Int)), ()))
 (rec (x3.1, y7.1, (IntKind.wrap IntKind.i64 (x3.2.2.1 + (1 : Int))), ()))))))
 (e0_0 (x3.2.1, ())))

noncomputable def F13 (a0 : List (D71)) (a1 : Int) : Option (Int × Unit) :=
 (cond (decide ((IntKind.wrap IntKind.i64 (a1 - (((List.length a0) : Nat) : Int))) < (0 : Int)))
 (some ((-(1 : Int)), ()))
 (iter (F13_R5
 (fun y8 =>
 (some (y8.1, ())))
 (fun y9 =>
 (some (y9.1, ())))) fuel (a0, (IntKind.wrap IntKind.i64 (a1 - (((List.length a0) : Nat) : Int))), (0 : Int), ())))

noncomputable def C13 : Fun := ⟨[(.ro (.slice Y71)), (.ro (.int .i64))], [((.int .i64), .z)], fun z => F13 z.1 z.2.1⟩
noncomputable def E13 : Env := ⟨27, tyTab tys, oneTab ones, fnTab [(26, C26)], false, [], [(4, [0, 1], []), (5, [0, 1, 5], []), (6, [0, 1, 5], []), (7, [0, 1, 5], []), (10, [1], []), (100000, [1], []), (100001, [0, 1, 5], []), (99999, [4], [])], none, []⟩
noncomputable def L13 : List (LoopS (Int × Unit)) := [⟨5, ⟨[(0, (.pv (.slice Y71))), (1, (.pv (.int .i64))), (5, (.pv (.int .i64)))], []⟩, fun κ => F13_R5 (fun y => κ.exit 0 (SSh.mk' ⟨[(1, (.pv (.int .i64)))], []⟩ y)) (fun y => κ.ret (SSh.mk' ⟨[(4, (.pv (.int .i64)))], []⟩ y))⟩]
theorem L13_5 : ∀ (κ : Kont (Int × Unit)) (N : St → Option (Int × Unit)) (x : (L13[0]).sh.den), execK E13 (lpOf L13) (nthLoop (codeOf Go.Proofs.Tryz.f13) 0) { κ with normal := fun σ => N (σ.keepAt (E13).hints 5) } ((L13[0]).sh.mk' x) = (L13[0]).R κ (fun x => N ((L13[0]).sh.mk' x)) x :=
  fun κ N x => by kernel_rfl
theorem C13_ok : QuietOk Go.Proofs.Tryz.prog 13 C13 :=
  told (env := E13) (fn := Go.Proofs.Tryz.f13) (c := (codeOf Go.Proofs.Tryz.f13)) (tbl := L13) (ls := [nthLoop (codeOf Go.Proofs.Tryz.f13) 0]) (vars := Go.Proofs.Tryz.f13.results.toList) Go.Proofs.Tryz.func13 (tysC_ok tys_ok rfl rfl) (Told.fnOk (.cons C26_ok .nil) rfl) (by kernel_rfl) (by decide) rfl (by decide) rfl rfl rfl (by kernel_rfl) (.cons L13[0] (by kernel_rfl) L13_5 .nil) (by kernel_rfl)

/- 76: loop.example/g00380/laws.szChange -/
noncomputable def F76 (a0 : D145) (a1 : Int) : Option (Int × Unit) :=
 (Option.bind (F75 a0.1 a1) fun y0 =>
 (cond (decide (y0.1 < (0 : Int)))
 (some ((-(1 : Int)), ()))
 (Option.bind (F111 a0.2.1 y0.1) fun y2 =>
 (cond (decide (y2.1 < (0 : Int)))
 (some ((-(1 : Int)), ()))
 (some (y2.1, ()))))))

noncomputable def C76 : Fun := ⟨[(.ro Y145), (.ro (.int .i64))], [((.int .i64), .z)], fun z => F76 z.1 z.2.1⟩
noncomputable def E76 : Env := ⟨18, tyTab tys, oneTab ones, fnTab [(75, C75), (111, C111)], false, [], [(4, [1, 2], []), (7, [1], []), (99999, [4], [])], none, []⟩
noncomputable def L76 : List (LoopS (Int × Unit)) := []
theorem C76_ok : QuietOk Go.Proofs.Tryz.prog 76 C76 :=
  told (env := E76) (fn := Go.Proofs.Tryz.f76) (c := (codeOf Go.Proofs.Tryz.f76)) (tbl := L76) (ls := []) (vars := Go.Proofs.Tryz.f76.results.toList) Go.Proofs.Tryz.func76 (tysC_ok tys_ok rfl rfl) (Told.fnOk (.cons C75_ok (.cons C111_ok .nil)) rfl) (by kernel_rfl) (by decide) rfl (by decide) rfl rfl rfl (by kernel_rfl) .nil (by kernel_rfl)

/- 49: loop.example/g00380/laws.szChangeS -/
noncomputable def F49_R5 (e0_0 : Int × Unit → Option (Int × Unit)) (er_1 : Int × Unit → Option (Int × Unit)) (rec : List (D145) × Int × Int × Unit → Option (Int × Unit)) (x3 : List (D145) × Int × Int × Unit) : Option (Int × Unit) :=
 (cond (decide (x3.2.2.1 < (((List.length x3.1) : Nat) : Int)))
 (gd (decide ((0 : Int) ≤ x3.2.2.1))
 (Option.bind x3.1[(Int.toNat x3.2.2.1)]? fun y6 =>
 (Option.bind (F76 y6 x3.2.1) fun y7 =>
 (cond (decide (y7.1 < (0 : Int)))
 (er_1 ((-(1 : Int)), ()))
 (rec (x3.1, y7.1, (IntKind.wrap IntKind.i64 (x3.2.2.1 + (1 : Int))), ()))))))
 (e0_0 (x3.2.1, ())))

noncomputable def F49 (a0 : List (D145)) (a1 : Int) : Option (Int × Unit) :=
 (cond (decide ((IntKind.wrap IntKind.i64 (a1 - (((List.length a0) : Nat) : Int))) < (0 : Int)))
 (some ((-(1 : Int)), ()))
 (iter (F49_R5
 (fun y8 =>
 (some (y8.1, ())))
 (fun y9 =>
 (some (y9.1, ())))) fuel (a0, (IntKind.wrap IntKind.i64 (a1 - (((List.length a0) : Nat) : Int))), (0 : Int), ())))

noncomputable def C49 : Fun := ⟨[(.ro (.slice Y145)), (.ro (.int .i64))], [((.int .i64), .z)], fun z => F49 z.1 z.2.1⟩
noncomputable def E49 : Env := ⟨27, tyTab tys, oneTab ones, fnTab [(76, C76)], false, [], [(4, [0, 1], []), (5, [0, 1, 5], []), (6, [0, 1, 5], []), (7, [0, 1, 5], []), (10, [1], []), (100000, [1], []), (100001, [0, 1, 5], []), (99999, [4], [])], none, []⟩
noncomputable def L49 : List (LoopS (Int × Unit)) := [⟨5, ⟨[(0, (.pv (.slice Y145))), (1, (.pv (.int .i64))), (5, (.pv (.int .i64)))], []⟩, fun κ => F49_R5 (fun y => κ.exit 0 (SSh.mk' ⟨[(1, (.pv (.int .i64)))], []⟩ y)) (fun y => κ.ret (SSh.mk' ⟨[(4, (.pv (.int .i64)))], []⟩ y))⟩]
theorem L49_5 : ∀ (κ : Kont (Int × Unit)) (N : St → Option (Int × Unit)) (x : (L49[0]).sh.den), execK E49 (lpOf L49) (nthLoop (codeOf Go.Proofs.Tryz.f49) 0) { κ with normal := fun σ => N (σ.keepAt (E49).hints 5) } ((L49[0]).sh.mk' x) = (L49[0]).R κ (fun x => N ((L49[0]).sh.mk' x)) x :=
  fun κ N x => by kernel_rfl
theorem C49_ok : QuietOk Go.Proofs.Tryz.prog 49 C49 :=
  told (env := E49) (fn := Go.Proofs.Tryz.f49) (c := (codeOf Go.Proofs.Tryz.f49)) (tbl := L49) (ls := [nthLoop (codeOf Go.Proofs.Tryz.f49) 0]) (vars := Go.Proofs.Tryz.f49.results.toList) Go.Proofs.Tryz.func49 (tysC_ok tys_ok rfl rfl) (Told.fnOk (.cons C76_ok .nil) rfl) (by kernel_rfl) (by decide) rfl (by decide) rfl rfl rfl (by kernel_rfl) (.cons L49[0] (by kernel_rfl) L49_5 .nil) (by kernel_rfl)

/- 27: loop.example/g00380/laws.szDone -/
noncomputable def F27 (a0 : D75) (a1 : Int) : Option (Int × Unit) :=
 (Option.bind (F47 a0.2.2.1 a1) fun y0 =>
 (cond (decide (y0.1 < (0 : Int)))
 (some ((-(1 : Int)), ()))
 (Option.bind (F49 a0.2.2.2.1 y0.1) fun y2 =>
 (cond (decide (y2.1 < (0 : Int)))
 (some ((-(1 : Int)), ()))
 (some (y2.1, ()))))))

noncomputable def C27 : Fun := ⟨[(.ro Y75), (.ro (.int .i64))], [((.int .i64), .z)], fun z => F27 z.1 z.2.1⟩
noncomputable def E27 : Env := ⟨18, tyTab tys, oneTab ones, fnTab [(47, C47), (49, C49)], false, [], [(4, [1, 2], []), (7, [1], []), (99999, [4], [])], none, []⟩
noncomputable def L27 : List (LoopS (Int × Unit)) := []
theorem C27_ok : QuietOk Go.Proofs.Tryz.prog 27 C27 :=
  told (env := E27) (fn := Go.Proofs.Tryz.f27) (c := (codeOf Go.Proofs.Tryz.f27)) (tbl := L27) (ls := []) (vars := Go.Proofs.Tryz.f27.results.toList) Go.Proofs.Tryz.func27 (tysC_ok tys_ok rfl rfl) (Told.fnOk (.cons C47_ok (.cons C49_ok .nil)) rfl) (by kernel_rfl) (by decide) rfl (by decide) rfl rfl rfl (by kernel_rfl) .nil (by kernel_rfl)

/- 14: loop.example/g00380/laws.szDoneS -/
noncomputable def F14_R5 (e0_0 : Int × Unit → Option (Int × Unit)) (er_1 : Int × Unit → Option (Int × Unit)) (rec : List (D75) × Int × Int × Unit → Option (Int × Unit)) (x3 : List (D75) × Int × Int × Unit) : Option (Int × Unit) :=
 (cond (decide (x3.2.2.1 < (((List.length x3.1) : Nat) : Int)))
 (gd (decide ((0 : Int) ≤ x3.2.2.1))
 (Option.bind x3.1[(Int.toNat x3.2.2.1)]? fun y6 =>
 (Option.bind (F27 y6 x3.2.1) fun y7 =>
 (cond (decide (y7.1 < (0 : Int)))
 (er_1 ((-(1 : Int)), ()))
 (rec (x3.1, y7.1, (IntKind.wrap IntKind.i64 (x3.2.2.1 + (1 : Int))), ()))))))
 (e0_0 (x3.2.1, ())))

noncomputable def F14 (a0 : List (D75)) (a1 : Int) : Option (Int × Unit) :=
 (cond (decide ((IntKind.wrap IntKind.i64 (a1 - (((List.length a0) : Nat) : Int))) < (0 : Int)))
 (some ((-(1 : Int)), ()))
 (iter (F14_R5
 (fun y8 =>
 (some (y8.1, ())))
 (fun y9 =>
 (some (y9.1, ())))) fuel (a0, (IntKind.wrap IntKind.i64 (a1 - (((List.length a0) : Nat) : Int))), (0 : Int), ())))

noncomputable def C14 : Fun := ⟨[(.ro (.slice Y75)), (.ro (.int .i64))], [((.int .i64), .z)], fun z => F14 z.1 z.2.1⟩
noncomputable def E14 : Env := ⟨27, tyTab tys, oneTab ones, fnTab [(27, C27)], false, [], [(4, [0, 1], []), (5, [0, 1, 5], []), (6, [0, 1, 5], []), (7, [0, 1, 5], []), (10, [1], []), (100000, [1], []), (100001, [0, 1, 5], []), (99999, [4], [])], none, []⟩
noncomputable def L14 : List (LoopS (Int × Unit)) := [⟨5, ⟨[(0, (.pv (.slice Y75))), (1, (.pv (.int .i64))), (5, (.pv (.int .i64)))], []⟩, fun κ => F14_R5 (fun y => κ.exit 0 (SSh.mk' ⟨[(1, (.pv (.int .i64)))], []⟩ y)) (fun y => κ.ret (SSh.mk' ⟨[(4, (.pv (.int .i64)))], []⟩ y))⟩]
theorem L14_5 : ∀ (κ : Kont (Int × Unit)) (N : St → Option (Int × Unit)) (x : (L14[0]).sh.den), execK E14 (lpOf L14) (nthLoop (codeOf Go.Proofs.Tryz.f14) 0) { κ with normal := fun σ => N (σ.keepAt (E14).hints 5) } ((L14[0]).sh.mk' x) = (L14[0]).R κ (fun x => N ((L14[0]).sh.mk' x)) x :=
  fun κ N x => by kernel_rfl
theorem C14_ok : QuietOk Go.Proofs.Tryz.prog 14 C14 :=
  told (env := E14) (fn := Go.Proofs.Tryz.f14) (c := (codeOf Go.Proofs.Tryz.f14)) (tbl := L14) (ls := [nthLoop (codeOf Go.Proofs.Tryz.f14) 0]) (vars := Go.Proofs.Tryz.f14.results.toList) Go.Proofs.Tryz.func14 (tysC_ok tys_ok rfl rfl) (Told.fnOk (.cons C27_ok .nil) rfl) (by kernel_rfl) (by decide) rfl (by decide) rfl rfl rfl (by kernel_rfl) (.cons L14[0] (by kernel_rfl) L14_5 .nil) (by kernel_rfl)

/- 5: loop.example/g00380/laws.szStore -/
noncomputable def F5 (a0 : D25) (a1 : Int) : Option (Int × Unit) :=
 (Option.bind (F12 a0.1 a1) fun y0 =>
 (cond (decide (y0.1 < (0 : Int)))
 (some ((-(1 : Int)), ()))
 (Option.bind (F13 a0.2.1 y0.1) fun y2 =>
 (cond (decide (y2.1 < (0 : Int)))
 (some ((-(1 : Int)), ()))
 (Option.bind (F14 a0.2.2.1 y2.1) fun y4 =>
 (cond (decide (y4.1 < (0 : Int)))
 (some ((-(1 : Int)), ()))
 (some (y4.1, ()))))))))

noncomputable def C5 : Fun := ⟨[(.ro Y25), (.ro (.int .i64))], [((.int .i64), .z)], fun z => F5 z.1 z.2.1⟩
noncomputable def E5 : Env := ⟨24, tyTab tys, oneTab ones, fnTab [(12, C12), (13, C13), (14, C14)], false, [], [(4, [1, 2], []), (7, [1, 2], []), (10, [1], []), (99999, [4], [])], none, []⟩
noncomputable def L5 : List (LoopS (Int × Unit)) := []
theorem C5_ok : QuietOk Go.Proofs.Tryz.prog 5 C5 :=
  told (env := E5) (fn := Go.Proofs.Tryz.f5) (c := (codeOf Go.Proofs.Tryz.f5)) (tbl := L5) (ls := []) (vars := Go.Proofs.Tryz.f5.results.toList) Go.Proofs.Tryz.func5 (tysC_ok tys_ok rfl rfl) (Told.fnOk (.cons C12_ok (.cons C13_ok (.cons C14_ok .nil))) rfl) (by kernel_rfl) (by decide) rfl (by decide) rfl rfl rfl (by kernel_rfl) .nil (by kernel_rfl)

/- 28: loop.example/g00380/spec.l01In -/
noncomputable def F28 (a0 : Int) (a1 : Int) (a2 : Int) : Option (Bool × Unit) :=
 (cond (decide (a1 ≤ a0))
 (some ((decide (a0 ≤ a2)), ()))
 (some (false, ())))

noncomputable def C28 : Fun := ⟨[(.ro (.int .i64)), (.ro (.int .i64)), (.ro (.int .i64))], [(.bool, .z)], fun z => F28 z.1 z.2.1 z.2.2.1⟩
noncomputable def E28 : Env := ⟨15, tyTab tys, oneTab ones, fnTab [], false, [], [(99999, [6], [])], none, []⟩
noncomputable def L28 : List (LoopS (Bool × Unit)) := []
theorem C28_ok : QuietOk Go.Proofs.Tryz.prog 28 C28 :=
  told (env := E28) (fn := Go.Proofs.Tryz.f28) (c := (codeOf Go.Proofs.Tryz.f28)) (tbl := L28) (ls := []) (vars := Go.Proofs.Tryz.f28.results.toList) Go.Proofs.Tryz.func28 (tysC_ok tys_ok rfl rfl) (Told.fnOk .nil rfl) (by kernel_rfl) (by decide) rfl (by decide) rfl rfl rfl (by kernel_rfl) .nil (by kernel_rfl)

/- 166: loop.example/g00380/spec.l00Letter -/
noncomputable def F166 (a0 : Int) : Option (Bool × Unit) :=
 (cond (decide (a0 ≥ (97 : Int)))
 (cond (decide (a0 ≤ (122 : Int)))
 (some (true, ()))
 (cond (decide (a0 ≥ (65 : Int)))
 (cond (decide (a0 ≤ (90 : Int)))
 (some (true, ()))
 (some ((a0 == (95 : Int)), ())))
 (some ((a0 == (95 : Int)), ()))))
 (cond (decide (a0 ≥ (65 : Int)))
 (cond (decide (a0 ≤ (90 : Int)))
 (some (true, ()))
 (some ((a0 == (95 : Int)), ())))
 (some ((a0 == (95 : Int)), ()))))

noncomputable def C166 : Fun := ⟨[(.ro (.int .u8))], [(.bool, .z)], fun z => F166 z.1⟩
noncomputable def E166 : Env := ⟨21, tyTab tys, oneTab ones, fnTab [], false, [], [(99999, [2], [])], none, []⟩
noncomputable def L166 : List (LoopS (Bool × Unit)) := []
theorem C166_ok : QuietOk Go.Proofs.Tryz.prog 166 C166 :=
  told (env := E166) (fn := Go.Proofs.Tryz.f166) (c := (codeOf Go.Proofs.Tryz.f166)) (tbl := L166) (ls := []) (vars := Go.Proofs.Tryz.f166.results.toList) Go.Proofs.Tryz.func166 (tysC_ok tys_ok rfl rfl) (Told.fnOk .nil rfl) (by kernel_rfl) (by decide) rfl (by decide) rfl rfl rfl (by kernel_rfl) .nil (by kernel_rfl)

/- 167: loop.example/g00380/spec.l00Digit -/
noncomputable def F167 (a0 : Int) : Option (Bool × Unit) :=
 (cond (decide (a0 ≥ (48 : Int)))
 (some ((decide (a0 ≤ (57 : Int))), ()))
 (some (false, ())))

noncomputable def C167 : Fun := ⟨[(.ro (.int .u8))], [(.bool, .z)], fun z => F167 z.1⟩
noncomputable def E167 : Env := ⟨9, tyTab tys, oneTab ones, fnTab [], false, [], [(99999, [2], [])], none, []⟩
noncomputable def L167 : List (LoopS (Bool × Unit)) := []
theorem C167_ok : QuietOk Go.Proofs.Tryz.prog 167 C167 :=
  told (env := E167) (fn := Go.Proofs.Tryz.f167) (c := (codeOf Go.Proofs.Tryz.f167)) (tbl := L167) (ls := []) (vars := Go.Proofs.Tryz.f167.results.toList) Go.Proofs.Tryz.func167 (tysC_ok tys_ok rfl rfl) (Told.fnOk .nil rfl) (by kernel_rfl) (by decide) rfl (by decide) rfl rfl rfl (by kernel_rfl) .nil (by kernel_rfl)

/- 145: loop.example/g00380/spec.l00Word -/
noncomputable def F145_R4 (e0_0 : Unit → Option (Bool × Unit)) (er_1 : Bool × Unit → Option (Bool × Unit)) (rec : List UInt8 × Int × Unit → Option (Bool × Unit)) (x5 : List UInt8 × Int × Unit) : Option (Bool × Unit) :=
 (cond (decide (x5.2.1 < (((List.length x5.1) : Nat) : Int)))
 (let j12 : List UInt8 × Int × Unit → Option (Bool × Unit) := fun (y13 : List UInt8 × Int × Unit) =>
 (rec (y13.1, (IntKind.wrap IntKind.i64 (y13.2.1 + (1 : Int))), ()))
 (gd (decide ((0 : Int) ≤ x5.2.1))
 (Option.bind x5.1[(Int.toNat x5.2.1)]? fun y8 =>
 (Option.bind (F166 (((UInt8.toNat y8) : Nat) : Int)) fun y9 =>
 (cond (!y9.1)
 (gd (decide ((0 : Int) ≤ x5.2.1))
 (Option.bind x5.1[(Int.toNat x5.2.1)]? fun y10 =>
 (Option.bind (F167 (((UInt8.toNat y10) : Nat) : Int)) fun y11 =>
 (cond (!y11.1)
 (er_1 (false, ()))
 (j12 (x5.1, x5.2.1, ()))))))
 (j12 (x5.1, x5.2.1, ())))))))
 (e0_0 (())))

noncomputable def F145 (a0 : List UInt8) : Option (Bool × Unit) :=
 (cond (decide ((((List.length a0) : Nat) : Int) < (1 : Int)))
 (some (false, ()))
 (cond (decide ((((List.length a0) : Nat) : Int) > (40 : Int)))
 (some (false, ()))
 (Option.bind a0[(Int.toNat (0 : Int))]? fun y1 =>
 (Option.bind (F166 (((UInt8.toNat y1) : Nat) : Int)) fun y2 =>
 (cond (!y2.1)
 (some (false, ()))
 (iter (F145_R4
 (fun y14 =>
 (some (true, ())))
 (fun y15 =>
 (some (y15.1, ())))) fuel (a0, (1 : Int), ())))))))

noncomputable def C145 : Fun := ⟨[(.ro .str)], [(.bool, .z)], fun z => F145 z.1⟩
noncomputable def E145 : Env := ⟨36, tyTab tys, oneTab ones, fnTab [(166, C166), (167, C167)], false, [], [(3, [0], []), (4, [0, 3], []), (5, [0, 3], []), (6, [0, 3], []), (8, [], []), (100000, [], []), (100001, [0, 3], []), (99999, [2], [])], none, []⟩
noncomputable def L145 : List (LoopS (Bool × Unit)) := [⟨4, ⟨[(0, (.pv .str)), (3, (.pv (.int .i64)))], []⟩, fun κ => F145_R4 (fun y => κ.exit 0 (SSh.mk' ⟨[], []⟩ y)) (fun y => κ.ret (SSh.mk' ⟨[(2, (.pv .bool))], []⟩ y))⟩]
theorem L145_4 : ∀ (κ : Kont (Bool × Unit)) (N : St → Option (Bool × Unit)) (x : (L145[0]).sh.den), execK E145 (lpOf L145) (nthLoop (codeOf Go.Proofs.Tryz.f145) 0) { κ with normal := fun σ => N (σ.keepAt (E145).hints 4) } ((L145[0]).sh.mk' x) = (L145[0]).R κ (fun x => N ((L145[0]).sh.mk' x)) x :=
  fun κ N x => by kernel_rfl
theorem C145_ok : QuietOk Go.Proofs.Tryz.prog 145 C145 :=
  told (env := E145) (fn := Go.Proofs.Tryz.f145) (c := (codeOf Go.Proofs.Tryz.f145)) (tbl := L145) (ls := [nthLoop (codeOf Go.Proofs.Tryz.f145) 0]) (vars := Go.Proofs.Tryz.f145.results.toList) Go.Proofs.Tryz.func145 (tysC_ok tys_ok rfl rfl) (Told.fnOk (.cons C166_ok (.cons C167_ok .nil)) rfl) (by kernel_rfl) (by decide) rfl (by decide) rfl rfl rfl (by kernel_rfl) (.cons L145[0] (by kernel_rfl) L145_4 .nil) (by kernel_rfl)

/- 112: loop.example/g00380/spec.NameOK -/
noncomputable def F112 (a0 : List UInt8) : Option (Bool × Unit) :=
 (Option.bind (F145 a0) fun y0 =>
 (some (y0.1, ())))

noncomputable def C112 : Fun := ⟨[(.ro .str)], [(.bool, .z)], fun z => F112 z.1⟩
noncomputable def E112 : Env := ⟨5, tyTab tys, oneTab ones, fnTab [(145, C145)], false, [], [(99999, [2], [])], none, []⟩
noncomputable def L112 : List (LoopS (Bool × Unit)) := []
theorem C112_ok : QuietOk Go.Proofs.Tryz.prog 112 C112 :=
  told (env := E112) (fn := Go.Proofs.Tryz.f112) (c := (codeOf Go.Proofs.Tryz.f112)) (tbl := L112) (ls := []) (vars := Go.Proofs.Tryz.f112.results.toList) Go.Proofs.Tryz.func112 (tysC_ok tys_ok rfl rfl) (Told.fnOk (.cons C145_ok .nil) rfl) (by kernel_rfl) (by decide) rfl (by decide) rfl rfl rfl (by kernel_rfl) .nil (by kernel_rfl)

/- 77: loop.example/g00380/spec.l01Name -/
noncomputable def F77 (a0 : List UInt8) : Option (Bool × Unit) :=
 (Option.bind (F112 a0) fun y0 =>
 (cond y0.1
 (some ((decide ((((List.length a0) : Nat) : Int) ≤ (12 : Int))), ()))
 (some (false, ()))))

noncomputable def C77 : Fun := ⟨[(.ro .str)], [(.bool, .z)], fun z => F77 z.1⟩
noncomputable def E77 : Env := ⟨10, tyTab tys, oneTab ones, fnTab [(112, C112)], false, [], [(99999, [2], [])], none, []⟩
noncomputable def L77 : List (LoopS (Bool × Unit)) := []
theorem C77_ok : QuietOk Go.Proofs.Tryz.prog 77 C77 :=
  told (env := E77) (fn := Go.Proofs.Tryz.f77) (c := (codeOf Go.Proofs.Tryz.f77)) (tbl := L77) (ls := []) (vars := Go.Proofs.Tryz.f77.results.toList) Go.Proofs.Tryz.func77 (tysC_ok tys_ok rfl rfl) (Told.fnOk (.cons C112_ok .nil) rfl) (by kernel_rfl) (by decide) rfl (by decide) rfl rfl rfl (by kernel_rfl) .nil (by kernel_rfl)

/- 146: loop.example/g00380/spec.l00Cut -/
noncomputable def F146_R4 (e0_0 : List UInt8 × Int × List (List UInt8) × Unit → Option (List (List UInt8) × Unit)) (rec : List UInt8 × Int × Int × Int × List (List UInt8) × Unit → Option (List (List UInt8) × Unit)) (x2 : List UInt8 × Int × Int × Int × List (List UInt8) × Unit) : Option (List (List UInt8) × Unit) :=
 (cond (decide (x2.2.2.2.1 < (((List.length x2.1) : Nat) : Int)))
 (let j6 : List UInt8 × Int × Int × Int × List (List UInt8) × Unit → Option (List (List UInt8) × Unit) := fun (y7 : List UInt8 × Int × Int × Int × List (List UInt8) × Unit) =>
 (rec (y7.1, y7.2.1, y7.2.2.1, (IntKind.wrap IntKind.i64 (y7.2.2.2.1 + (1 : Int))), y7.2.2.2.2.1, ()))
 (gd (decide ((0 : Int) ≤ x2.2.2.2.1))
 (Option.bind x2.1[(Int.toNat x2.2.2.2.1)]? fun y5 =>
 (cond ((((UInt8.toNat y5) : Nat) : Int) == x2.2.1)
 (gd (decide ((0 : Int) ≤ x2.2.2.2.1))
 (gd (decide (x2.2.2.2.1 ≤ (((List.length x2.1) : Nat) : Int)))
 (gd (decide ((0 : Int) ≤ x2.2.2.1))
 (gd (decide (x2.2.2.1 ≤ (((Int.toNat x2.2.2.2.1) : Nat) : Int)))
 (gd (decide (((List.length x2.2.2.2.2.1) + (List.length [(List.drop (Int.toNat x2.2.2.1) (List.take (Int.toNat x2.2.2.2.1) x2.1))])) ≤ lim))
 (j6 (x2.1, x2.2.1, (IntKind.wrap IntKind.i64 (x2.2.2.2.1 + (1 : Int))), x2.2.2.2.1, (x2.2.2.2.2.1 ++ [(List.drop (Int.toNat x2.2.2.1) (List.take (Int.toNat x2.2.2.2.1) x2.1))]), ())))))))
 (j6 (x2.1, x2.2.1, x2.2.2.1, x2.2.2.2.1, x2.2.2.2.2.1, ()))))))
 (e0_0 (x2.1, x2.2.2.1, x2.2.2.2.2.1, ())))

noncomputable def F146 (a0 : List UInt8) (a1 : Int) : Option (List (List UInt8) × Unit) :=
 (iter (F146_R4
 (fun y8 =>
 (gd (decide ((((List.length y8.1) : Nat) : Int) ≤ (((List.length y8.1) : Nat) : Int)))
 (gd (decide ((0 : Int) ≤ y8.2.1))
 (gd (decide (y8.2.1 ≤ (((Int.toNat (((List.length y8.1) : Nat) : Int)) : Nat) : Int)))
 (gd (decide (((List.length y8.2.2.1) + (List.length [(List.drop (Int.toNat y8.2.1) (List.take (Int.toNat (((List.length y8.1) : Nat) : Int)) y8.1))])) ≤ lim))
 (some ((y8.2.2.1 ++ [(List.drop (Int.toNat y8.2.1) (List.take (Int.toNat (((List.length y8.1) : Nat) : Int)) y8.1))]), ())))))))) fuel (a0, a1, (0 : Int), (0 : Int), [], ()))

noncomputable def C146 : Fun := ⟨[(.ro .str), (.ro (.int .u8))], [((.slice .str), .z)], fun z => F146 z.1 z.2.1⟩
noncomputable def E146 : Env := ⟨35, tyTab tys, oneTab ones, fnTab [], false, [], [(4, [0, 1, 5, 6, 7], []), (5, [0, 1, 5, 6, 7], []), (6, [0, 1, 5, 6, 7], []), (9, [0, 5, 6], []), (100000, [0, 5, 6], []), (100001, [0, 1, 5, 6, 7], []), (99999, [4], [])], none, []⟩
noncomputable def L146 : List (LoopS (List (List UInt8) × Unit)) := [⟨4, ⟨[(0, (.pv .str)), (1, (.pv (.int .u8))), (5, (.ref (.slice .str) 64 [])), (6, (.pv (.int .i64))), (7, (.pv (.int .i64)))], [(64, (.data false (.slice .str) (.own .z)))]⟩, fun κ => F146_R4 (fun y => κ.exit 0 (SSh.mk' ⟨[(0, (.pv .str)), (5, (.ref (.slice .str) 64 [])), (6, (.pv (.int .i64)))], [(64, (.data false (.slice .str) (.own .z)))]⟩ y))⟩]
theorem L146_4 : ∀ (κ : Kont (List (List UInt8) × Unit)) (N : St → Option (List (List UInt8) × Unit)) (x : (L146[0]).sh.den), execK E146 (lpOf L146) (nthLoop (codeOf Go.Proofs.Tryz.f146) 0) { κ with normal := fun σ => N (σ.keepAt (E146).hints 4) } ((L146[0]).sh.mk' x) = (L146[0]).R κ (fun x => N ((L146[0]).sh.mk' x)) x :=
  fun κ N x => by kernel_rfl
theorem C146_ok : QuietOk Go.Proofs.Tryz.prog 146 C146 :=
  told (env := E146) (fn := Go.Proofs.Tryz.f146) (c := (codeOf Go.Proofs.Tryz.f146)) (tbl := L146) (ls := [nthLoop (codeOf Go.Proofs.Tryz.f146) 0]) (vars := Go.Proofs.Tryz.f146.results.toList) Go.Proofs.Tryz.func146 (tysC_ok tys_ok rfl rfl) (Told.fnOk .nil rfl) (by kernel_rfl) (by decide) rfl (by decide) rfl rfl rfl (by kernel_rfl) (.cons L146[0] (by kernel_rfl) L146_4 .nil) (by kernel_rfl)

/- 113: loop.example/g00380/spec.PathOK -/
noncomputable def F113_R7 (e0_0 : Unit → Option (Bool × Unit)) (er_1 : Bool × Unit → Option (Bool × Unit)) (rec : List (List UInt8) × Int × Unit → Option (Bool × Unit)) (x5 : List (List UInt8) × Int × Unit) : Option (Bool × Unit) :=
 (cond (decide (x5.2.1 < (((List.length x5.1) : Nat) : Int)))
 (gd (decide ((0 : Int) ≤ x5.2.1))
 (Option.bind x5.1[(Int.toNat x5.2.1)]? fun y8 =>
 (Option.bind (F77 y8) fun y9 =>
 (cond (!y9.1)
 (er_1 (false, ()))
 (rec (x5.1, (IntKind.wrap IntKind.i64 (x5.2.1 + (1 : Int))), ()))))))
 (e0_0 (())))

noncomputable def F113 (a0 : List UInt8) : Option (Bool × Unit) :=
 (cond (decide ((((List.length a0) : Nat) : Int) > (65536 : Int)))
 (some (false, ()))
 (Option.bind (F146 a0 (46 : Int)) fun y1 =>
 (cond (decide ((((List.length y1.1) : Nat) : Int) > (4 : Int)))
 (some (false, ()))
 (cond (decide ((((List.length a0) : Nat) : Int) > (50 : Int)))
 (some (false, ()))
 (iter (F113_R7
 (fun y10 =>
 (some (true, ())))
 (fun y11 =>
 (some (y11.1, ())))) fuel (y1.1, (0 : Int), ()))))))

noncomputable def C113 : Fun := ⟨[(.ro .str)], [(.bool, .z)], fun z => F113 z.1⟩
noncomputable def E113 : Env := ⟨30, tyTab tys, oneTab ones, fnTab [(77, C77), (146, C146)], false, [], [(3, [0], []), (6, [3], []), (7, [3, 4], []), (8, [3, 4], []), (9, [3, 4], []), (11, [], []), (100000, [], []), (100001, [3, 4], []), (99999, [2], [])], none, []⟩
noncomputable def L113 : List (LoopS (Bool × Unit)) := [⟨7, ⟨[(3, (.pv (.slice .str))), (4, (.pv (.int .i64)))], []⟩, fun κ => F113_R7 (fun y => κ.exit 0 (SSh.mk' ⟨[], []⟩ y)) (fun y => κ.ret (SSh.mk' ⟨[(2, (.pv .bool))], []⟩ y))⟩]
theorem L113_7 : ∀ (κ : Kont (Bool × Unit)) (N : St → Option (Bool × Unit)) (x : (L113[0]).sh.den), execK E113 (lpOf L113) (nthLoop (codeOf Go.Proofs.Tryz.f113) 0) { κ with normal := fun σ => N (σ.keepAt (E113).hints 7) } ((L113[0]).sh.mk' x) = (L113[0]).R κ (fun x => N ((L113[0]).sh.mk' x)) x :=
  fun κ N x => by kernel_rfl
theorem C113_ok : QuietOk Go.Proofs.Tryz.prog 113 C113 :=
  told (env := E113) (fn := Go.Proofs.Tryz.f113) (c := (codeOf Go.Proofs.Tryz.f113)) (tbl := L113) (ls := [nthLoop (codeOf Go.Proofs.Tryz.f113) 0]) (vars := Go.Proofs.Tryz.f113.results.toList) Go.Proofs.Tryz.func113 (tysC_ok tys_ok rfl rfl) (Told.fnOk (.cons C77_ok (.cons C146_ok .nil)) rfl) (by kernel_rfl) (by decide) rfl (by decide) rfl rfl rfl (by kernel_rfl) (.cons L113[0] (by kernel_rfl) L113_7 .nil) (by kernel_rfl)

/- 78: loop.example/g00380/spec.DefOK -/
noncomputable def F78_R4 (e0_0 : D132 × Unit → Option (Bool × Unit)) (er_1 : Bool × Unit → Option (Bool × Unit)) (rec : Int × D132 × Unit → Option (Bool × Unit)) (x5 : Int × D132 × Unit) : Option (Bool × Unit) :=
 (cond (decide (x5.1 < (((List.length x5.2.1.2.1) : Nat) : Int)))
 (gd (decide ((0 : Int) ≤ x5.1))
 (Option.bind x5.2.1.2.1[(Int.toNat x5.1)]? fun y8 =>
 (Option.bind (F113 y8.1) fun y9 =>
 (cond (!y9.1)
 (er_1 (false, ()))
 (rec ((IntKind.wrap IntKind.i64 (x5.1 + (1 : Int))), x5.2.1, ()))))))
 (e0_0 (x5.2.1, ())))

noncomputable def F78 (a0 : D132) : Option (Bool × Unit) :=
 (Option.bind (F77 a0.1) fun y1 =>
 (cond (!y1.1)
 (some (false, ()))
 (Option.bind (F28 (((List.length a0.2.1) : Nat) : Int) (1 : Int) (2 : Int)) fun y2 =>
 (cond (!y2.1)
 (some (false, ()))
 (iter (F78_R4
 (fun y10 =>
 (cond ((((List.length y10.1.2.1) : Nat) : Int) == (1 : Int))
 (some (true, ()))
 (Option.bind y10.1.2.1[(Int.toNat (0 : Int))]? fun y12 =>
 (Option.bind y10.1.2.1[(Int.toNat (1 : Int))]? fun y13 =>
 (some ((!(y12.1 == y13.1)), ()))))))
 (fun y11 =>
 (some (y11.1, ())))) fuel ((0 : Int), a0, ()))))))

noncomputable def C78 : Fun := ⟨[(.ro Y132)], [(.bool, .z)], fun z => F78 z.1⟩
noncomputable def E78 : Env := ⟨47, tyTab tys, oneTab ones, fnTab [(28, C28), (77, C77), (113, C113)], false, [], [(3, [1], []), (4, [1, 3], []), (5, [1, 3], []), (6, [1, 3], []), (8, [1], []), (100000, [1], []), (100001, [1, 3], []), (99999, [2], [])], none, []⟩
noncomputable def L78 : List (LoopS (Bool × Unit)) := [⟨4, ⟨[(1, (.ptr 8 [])), (3, (.pv (.int .i64)))], [(8, (.data true Y132 .z))]⟩, fun κ => F78_R4 (fun y => κ.exit 0 (SSh.mk' ⟨[(1, (.ptr 8 []))], [(8, (.data true Y132 .z))]⟩ y)) (fun y => κ.ret (SSh.mk' ⟨[(2, (.pv .bool))], []⟩ y))⟩]
theorem L78_4 : ∀ (κ : Kont (Bool × Unit)) (N : St → Option (Bool × Unit)) (x : (L78[0]).sh.den), execK E78 (lpOf L78) (nthLoop (codeOf Go.Proofs.Tryz.f78) 0) { κ with normal := fun σ => N (σ.keepAt (E78).hints 4) } ((L78[0]).sh.mk' x) = (L78[0]).R κ (fun x => N ((L78[0]).sh.mk' x)) x :=
  fun κ N x => by kernel_rfl
theorem C78_ok : QuietOk Go.Proofs.Tryz.prog 78 C78 :=
  told (env := E78) (fn := Go.Proofs.Tryz.f78) (c := (codeOf Go.Proofs.Tryz.f78)) (tbl := L78) (ls := [nthLoop (codeOf Go.Proofs.Tryz.f78) 0]) (vars := Go.Proofs.Tryz.f78.results.toList) Go.Proofs.Tryz.func78 (tysC_ok tys_ok rfl rfl) (Told.fnOk (.cons C28_ok (.cons C77_ok (.cons C113_ok .nil))) rfl) (by kernel_rfl) (by decide) rfl (by decide) rfl rfl rfl (by kernel_rfl) (.cons L78[0] (by kernel_rfl) L78_4 .nil) (by kernel_rfl)

/- 196: loop.example/g00380/spec.l01Of -/
noncomputable def F196_R3 (e0_0 : Int × Unit → Option (Int × Unit)) (rec : List UInt8 × Int × Int × Unit → Option (Int × Unit)) (x2 : List UInt8 × Int × Int × Unit) : Option (Int × Unit) :=
 (cond (decide (x2.2.2.1 < (((List.length x2.1) : Nat) : Int)))
 (gd (decide ((0 : Int) ≤ x2.2.2.1))
 (Option.bind x2.1[(Int.toNat x2.2.2.1)]? fun y4 =>
 (rec (x2.1, (IntKind.wrap IntKind.i64 ((IntKind.wrap IntKind.i64 (x2.2.1 * (256 : Int))) + (IntKind.wrap IntKind.i64 (((UInt8.toNat y4) : Nat) : Int)))), (IntKind.wrap IntKind.i64 (x2.2.2.1 + (1 : Int))), ()))))
 (e0_0 (x2.2.1, ())))

noncomputable def F196 (a0 : List UInt8) : Option (Int × Unit) :=
 (iter (F196_R3
 (fun y5 =>
 (some (y5.1, ())))) fuel (a0, (0 : Int), (0 : Int), ()))

noncomputable def C196 : Fun := ⟨[(.ro .str)], [((.int .i64), .z)], fun z => F196 z.1⟩
noncomputable def E196 : Env := ⟨19, tyTab tys, oneTab ones, fnTab [], false, [], [(3, [0, 3, 4], []), (5, [0, 3, 4], []), (6, [3], []), (100000, [3], []), (100001, [0, 3, 4], []), (99999, [2], [])], none, []⟩
noncomputable def L196 : List (LoopS (Int × Unit)) := [⟨3, ⟨[(0, (.pv .str)), (3, (.pv (.int .i64))), (4, (.pv (.int .i64)))], []⟩, fun κ => F196_R3 (fun y => κ.exit 0 (SSh.mk' ⟨[(3, (.pv (.int .i64)))], []⟩ y))⟩]
theorem L196_3 : ∀ (κ : Kont (Int × Unit)) (N : St → Option (Int × Unit)) (x : (L196[0]).sh.den), execK E196 (lpOf L196) (nthLoop (codeOf Go.Proofs.Tryz.f196) 0) { κ with normal := fun σ => N (σ.keepAt (E196).hints 3) } ((L196[0]).sh.mk' x) = (L196[0]).R κ (fun x => N ((L196[0]).sh.mk' x)) x :=
  fun κ N x => by kernel_rfl
theorem C196_ok : QuietOk Go.Proofs.Tryz.prog 196 C196 :=
  told (env := E196) (fn := Go.Proofs.Tryz.f196) (c := (codeOf Go.Proofs.Tryz.f196)) (tbl := L196) (ls := [nthLoop (codeOf Go.Proofs.Tryz.f196) 0]) (vars := Go.Proofs.Tryz.f196.results.toList) Go.Proofs.Tryz.func196 (tysC_ok tys_ok rfl rfl) (Told.fnOk .nil rfl) (by kernel_rfl) (by decide) rfl (by decide) rfl rfl rfl (by kernel_rfl) (.cons L196[0] (by kernel_rfl) L196_3 .nil) (by kernel_rfl)

/- 185: loop.example/g00380/spec.l01Next -/
noncomputable def F185 (a0 : List UInt8) : Option (D59 × List UInt8 × Bool × Unit) :=
 (cond ((((List.length a0) : Nat) : Int) == (0 : Int))
 (some (((0 : Int), ((0 : Int), ([], ()))), ([], (false, ()))))
 (Option.bind a0[(Int.toNat (0 : Int))]? fun y1 =>
 (let j13 : List UInt8 × Int × D59 × D59 × Unit → Option (D59 × List UInt8 × Bool × Unit) := fun (y14 : List UInt8 × Int × D59 × D59 × Unit) =>
 (cond (decide ((((List.length y14.1) : Nat) : Int) < (IntKind.wrap IntKind.i64 ((1 : Int) + y14.2.1))))
 (some (((0 : Int), ((0 : Int), ([], ()))), ([], (false, ()))))
 (let j21 : List UInt8 × Int × D59 × D59 × Unit → Option (D59 × List UInt8 × Bool × Unit) := fun (y22 : List UInt8 × Int × D59 × D59 × Unit) =>
 (gd (decide ((((List.length y22.1) : Nat) : Int) ≤ (((List.length y22.1) : Nat) : Int)))
 (gd (decide ((0 : Int) ≤ (IntKind.wrap IntKind.i64 ((1 : Int) + y22.2.1))))
 (gd (decide ((IntKind.wrap IntKind.i64 ((1 : Int) + y22.2.1)) ≤ (((Int.toNat (((List.length y22.1) : Nat) : Int)) : Nat) : Int)))
 (some (y22.2.2.2.1, ((List.drop (Int.toNat (IntKind.wrap IntKind.i64 ((1 : Int) + y22.2.1))) (List.take (Int.toNat (((List.length y22.1) : Nat) : Int)) y22.1)), (true, ())))))))
 (cond (y14.2.1 == (1 : Int))
 (Option.bind y14.1[(Int.toNat (1 : Int))]? fun y17 =>
 (j21 (y14.1, y14.2.1, y14.2.2.1, (y14.2.2.2.1.1, ((IntKind.wrap IntKind.i64 (((UInt8.toNat y17) : Nat) : Int)), y14.2.2.2.1.2.2)), ())))
 (Option.bind y14.1[(Int.toNat (1 : Int))]? fun y19 =>
 (cond (decide ((((UInt8.toNat y19) : Nat) : Int) > (127 : Int)))
 (some (((0 : Int), ((0 : Int), ([], ()))), ([], (false, ()))))
 (gd (decide ((9 : Int) ≤ (((List.length y14.1) : Nat) : Int)))
 (Option.bind (F196 (List.drop (Int.toNat (1 : Int)) (List.take (Int.toNat (9 : Int)) y14.1))) fun y20 =>
 (j21 (y14.1, y14.2.1, y14.2.2.1, (y14.2.2.2.1.1, ((IntKind.wrap IntKind.i64 (y20.1 - (4611686018427387904 : Int))), y14.2.2.2.1.2.2)), ())))))))))
 (cond ((IntKind.wrap IntKind.i64 (((UInt8.toNat y1) : Nat) : Int)) == (0 : Int))
 (gd (decide ((((List.length a0) : Nat) : Int) ≤ (((List.length a0) : Nat) : Int)))
 (gd (decide ((1 : Int) ≤ (((Int.toNat (((List.length a0) : Nat) : Int)) : Nat) : Int)))
 (some (((IntKind.wrap IntKind.i64 (((UInt8.toNat y1) : Nat) : Int)), ((0 : Int), ([], ()))), ((List.drop (Int.toNat (1 : Int)) (List.take (Int.toNat (((List.length a0) : Nat) : Int)) a0)), (true, ()))))))
 (cond ((IntKind.wrap IntKind.i64 (((UInt8.toNat y1) : Nat) : Int)) == (1 : Int))
 (j13 (a0, (1 : Int), ((0 : Int), ((0 : Int), ([], ()))), ((IntKind.wrap IntKind.i64 (((UInt8.toNat y1) : Nat) : Int)), ((0 : Int), ([], ()))), ()))
 (cond ((IntKind.wrap IntKind.i64 (((UInt8.toNat y1) : Nat) : Int)) == (2 : Int))
 (j13 (a0, (8 : Int), ((0 : Int), ((0 : Int), ([], ()))), ((IntKind.wrap IntKind.i64 (((UInt8.toNat y1) : Nat) : Int)), ((0 : Int), ([], ()))), ()))
 (cond ((IntKind.wrap IntKind.i64 (((UInt8.toNat y1) : Nat) : Int)) == (3 : Int))
 (cond ((IntKind.wrap IntKind.i64 (((UInt8.toNat y1) : Nat) : Int)) == (3 : Int))
 (cond (decide ((((List.length a0) : Nat) : Int) < (3 : Int)))
 (some (((0 : Int), ((0 : Int), ([], ()))), ([], (false, ()))))
 (gd (decide ((3 : Int) ≤ (((List.length a0) : Nat) : Int)))
 (Option.bind (F196 (List.drop (Int.toNat (1 : Int)) (List.take (Int.toNat (3 : Int)) a0))) fun y5 =>
 (cond (decide ((((List.length a0) : Nat) : Int) < (IntKind.wrap IntKind.i64 ((3 : Int) + y5.1))))
 (some (((0 : Int), ((0 : Int), ([], ()))), ([], (false, ()))))
 (gd (decide ((0 : Int) ≤ (IntKind.wrap IntKind.i64 ((3 : Int) + y5.1))))
 (gd (decide ((IntKind.wrap IntKind.i64 ((3 : Int) + y5.1)) ≤ (((List.length a0) : Nat) : Int)))
 (gd (decide ((3 : Int) ≤ (((Int.toNat (IntKind.wrap IntKind.i64 ((3 : Int) + y5.1))) : Nat) : Int)))
 (gd (decide ((((List.length a0) : Nat) : Int) ≤ (((List.length a0) : Nat) : Int)))
 (gd (decide ((0 : Int) ≤ (IntKind.wrap IntKind.i64 ((3 : Int) + y5.1))))
 (gd (decide ((IntKind.wrap IntKind.i64 ((3 : Int) + y5.1)) ≤ (((Int.toNat (((List.length a0) : Nat) : Int)) : Nat) : Int)))
 (some (((IntKind.wrap IntKind.i64 (((UInt8.toNat y1) : Nat) : Int)), ((0 : Int), ((List.drop (Int.toNat (3 : Int)) (List.take (Int.toNat (IntKind.wrap IntKind.i64 ((3 : Int) + y5.1))) a0)), ()))), ((List.drop (Int.toNat (IntKind.wrap IntKind.i64 ((3 : Int) + y5.1))) (List.take (Int.toNat (((List.length a0) : Nat) : Int)) a0)), (true, ()))))))))))))))
 (some (((0 : Int), ((0 : Int), ([], ()))), ([], (false, ())))))
 (cond ((IntKind.wrap IntKind.i64 (((UInt8.toNat y1) : Nat) : Int)) == (4 : Int))
 (cond ((IntKind.wrap IntKind.i64 (((UInt8.toNat y1) : Nat) : Int)) == (4 : Int))
 (cond (decide ((((List.length a0) : Nat) : Int) < (3 : Int)))
 (some (((0 : Int), ((0 : Int), ([], ()))), ([], (false, ()))))
 (gd (decide ((3 : Int) ≤ (((List.length a0) : Nat) : Int)))
 (Option.bind (F196 (List.drop (Int.toNat (1 : Int)) (List.take (Int.toNat (3 : Int)) a0))) fun y8 =>
 (cond (decide ((((List.length a0) : Nat) : Int) < (IntKind.wrap IntKind.i64 ((3 : Int) + y8.1))))
 (some (((0 : Int), ((0 : Int), ([], ()))), ([], (false, ()))))
 (gd (decide ((0 : Int) ≤ (IntKind.wrap IntKind.i64 ((3 : Int) + y8.1))))
 (gd (decide ((IntKind.wrap IntKind.i64 ((3 : Int) + y8.1)) ≤ (((List.length a0) : Nat) : Int)))
 (gd (decide ((3 : Int) ≤ (((Int.toNat (IntKind.wrap IntKind.i64 ((3 : Int) + y8.1))) : Nat) : Int)))
 (gd (decide ((((List.length a0) : Nat) : Int) ≤ (((List.length a0) : Nat) : Int)))
 (gd (decide ((0 : Int) ≤ (IntKind.wrap IntKind.i64 ((3 : Int) + y8.1))))
 (gd (decide ((IntKind.wrap IntKind.i64 ((3 : Int) + y8.1)) ≤ (((Int.toNat (((List.length a0) : Nat) : Int)) : Nat) : Int)))
 (some (((IntKind.wrap IntKind.i64 (((UInt8.toNat y1) : Nat) : Int)), ((0 : Int), ((List.drop (Int.toNat (3 : Int)) (List.take (Int.toNat (IntKind.wrap IntKind.i64 ((3 : Int) + y8.1))) a0)), ()))), ((List.drop (Int.toNat (IntKind.wrap IntKind.i64 ((3 : Int) + y8.1))) (List.take (Int.toNat (((List.length a0) : Nat) : Int)) a0)), (true, ()))))))))))))))
 (some (((0 : Int), ((0 : Int), ([], ()))), ([], (false, ())))))
 (cond ((IntKind.wrap IntKind.i64 (((UInt8.toNat y1) : Nat) : Int)) == (5 : Int))
 (cond (decide ((((List.length a0) : Nat) : Int) < (3 : Int)))
 (some (((0 : Int), ((0 : Int), ([], ()))), ([], (false, ()))))
 (gd (decide ((3 : Int) ≤ (((List.length a0) : Nat) : Int)))
 (Option.bind (F196 (List.drop (Int.toNat (1 : Int)) (List.take (Int.toNat (3 : Int)) a0))) fun y11 =>
 (cond (decide ((((List.length a0) : Nat) : Int) < (IntKind.wrap IntKind.i64 ((3 : Int) + y11.1))))
 (some (((0 : Int), ((0 : Int), ([], ()))), ([], (false, ()))))
 (gd (decide ((0 : Int) ≤ (IntKind.wrap IntKind.i64 ((3 : Int) + y11.1))))
 (gd (decide ((IntKind.wrap IntKind.i64 ((3 : Int) + y11.1)) ≤ (((List.length a0) : Nat) : Int)))
 (gd (decide ((3 : Int) ≤ (((Int.toNat (IntKind.wrap IntKind.i64 ((3 : Int) + y11.1))) : Nat) : Int)))
 (gd (decide ((((List.length a0) : Nat) : Int) ≤ (((List.length a0) : Nat) : Int)))
 (gd (decide ((0 : Int) ≤ (IntKind.wrap IntKind.i64 ((3 : Int) + y11.1))))
 (gd (decide ((IntKind.wrap IntKind.i64 ((3 : Int) + y11.1)) ≤ (((Int.toNat (((List.length a0) : Nat) : Int)) : Nat) : Int)))
 (some (((IntKind.wrap IntKind.i64 (((UInt8.toNat y1) : Nat) : Int)), ((0 : Int), ((List.drop (Int.toNat (3 : Int)) (List.take (Int.toNat (IntKind.wrap IntKind.i64 ((3 : Int) + y11.1))) a0)), ()))), ((List.drop (Int.toNat (IntKind.wrap IntKind.i64 ((3 : Int) + y11.1))) (List.take (Int.toNat (((List.length a0) : Nat) : Int)) a0)), (true, ()))))))))))))))
 (some (((0 : Int), ((0 : Int), ([], ()))), ([], (false, ())))))))))))))

noncomputable def C185 : Fun := ⟨[(.ro .str)], [(Y59, .z), (.str, .z), (.bool, .z)], fun z => F185 z.1⟩
noncomputable def E185 : Env := ⟨81, tyTab tys, oneTab ones, fnTab [(196, C196)], false, [], [(3, [0, 2], []), (18, [0, 2, 5], []), (21, [0, 2, 5, 7], []), (23, [0, 2, 5, 6], []), (25, [0, 2, 5, 6], []), (29, [0, 2, 5, 6], []), (30, [0, 2, 5, 6], []), (100000, [0, 2, 5, 6], []), (99999, [2, 3, 4], [])], none, []⟩
noncomputable def L185 : List (LoopS (D59 × List UInt8 × Bool × Unit)) := []
theorem C185_ok : QuietOk Go.Proofs.Tryz.prog 185 C185 :=
  told (env := E185) (fn := Go.Proofs.Tryz.f185) (c := (codeOf Go.Proofs.Tryz.f185)) (tbl := L185) (ls := []) (vars := Go.Proofs.Tryz.f185.results.toList) Go.Proofs.Tryz.func185 (tysC_ok tys_ok rfl rfl) (Told.fnOk (.cons C196_ok .nil) rfl) (by kernel_rfl) (by decide) rfl (by decide) rfl rfl rfl (by kernel_rfl) .nil (by kernel_rfl)

/- 169: loop.example/g00380/spec.l01Fields -/
noncomputable def F169_R2 (e0_0 : List (D238) × Unit → Option (List (D238) × Bool × Unit)) (er_1 : Bool × List (D238) × Unit → Option (List (D238) × Bool × Unit)) (er_2 : Bool × List (D238) × Unit → Option (List (D238) × Bool × Unit)) (rec : List UInt8 × List (D238) × Unit → Option (List (D238) × Bool × Unit)) (x2 : List UInt8 × List (D238) × Unit) : Option (List (D238) × Bool × Unit) :=
 (cond (decide ((((List.length x2.1) : Nat) : Int) > (0 : Int)))
 (Option.bind x2.1[(Int.toNat (0 : Int))]? fun y4 =>
 (cond (decide ((((List.length x2.1) : Nat) : Int) < (IntKind.wrap IntKind.i64 ((1 : Int) + (IntKind.wrap IntKind.i64 (((UInt8.toNat y4) : Nat) : Int))))))
 (er_1 (false, [], ()))
 (gd (decide ((0 : Int) ≤ (IntKind.wrap IntKind.i64 ((1 : Int) + (IntKind.wrap IntKind.i64 (((UInt8.toNat y4) : Nat) : Int))))))
 (gd (decide ((IntKind.wrap IntKind.i64 ((1 : Int) + (IntKind.wrap IntKind.i64 (((UInt8.toNat y4) : Nat) : Int)))) ≤ (((List.length x2.1) : Nat) : Int)))
 (gd (decide ((1 : Int) ≤ (((Int.toNat (IntKind.wrap IntKind.i64 ((1 : Int) + (IntKind.wrap IntKind.i64 (((UInt8.toNat y4) : Nat) : Int))))) : Nat) : Int)))
 (gd (decide ((((List.length x2.1) : Nat) : Int) ≤ (((List.length x2.1) : Nat) : Int)))
 (gd (decide ((0 : Int) ≤ (IntKind.wrap IntKind.i64 ((1 : Int) + (IntKind.wrap IntKind.i64 (((UInt8.toNat y4) : Nat) : Int))))))
 (gd (decide ((IntKind.wrap IntKind.i64 ((1 : Int) + (IntKind.wrap IntKind.i64 (((UInt8.toNat y4) : Nat) : Int)))) ≤ (((Int.toNat (((List.length x2.1) : Nat) : Int)) : Nat) : Int)))
 (Option.bind (F185 (List.drop (Int.toNat (IntKind.wrap IntKind.i64 ((1 : Int) + (IntKind.wrap IntKind.i64 (((UInt8.toNat y4) : Nat) : Int))))) (List.take (Int.toNat (((List.length x2.1) : Nat) : Int)) x2.1))) fun y6 =>
 (cond (!y6.2.2.1)
 (er_2 (false, [], ()))
 (gd (decide (((List.length x2.2.1) + (List.length [((List.drop (Int.toNat (1 : Int)) (List.take (Int.toNat (IntKind.wrap IntKind.i64 ((1 : Int) + (IntKind.wrap IntKind.i64 (((UInt8.toNat y4) : Nat) : Int))))) x2.1)), (y6.1, ()))])) ≤ lim))
 (rec (y6.2.1, (x2.2.1 ++ [((List.drop (Int.toNat (1 : Int)) (List.take (Int.toNat (IntKind.wrap IntKind.i64 ((1 : Int) + (IntKind.wrap IntKind.i64 (((UInt8.toNat y4) : Nat) : Int))))) x2.1)), (y6.1, ()))]), ())))))))))))))
 (e0_0 (x2.2.1, ())))

noncomputable def F169 (a0 : List UInt8) : Option (List (D238) × Bool × Unit) :=
 (iter (F169_R2
 (fun y8 =>
 (some (y8.1, (true, ()))))
 (fun y9 =>
 (some (y9.2.1, (y9.1, ()))))
 (fun y10 =>
 (some (y10.2.1, (y10.1, ()))))) fuel (a0, [], ()))

noncomputable def C169 : Fun := ⟨[(.ro .str)], [((.slice Y238), .z), (.bool, .z)], fun z => F169 z.1⟩
noncomputable def E169 : Env := ⟨47, tyTab tys, oneTab ones, fnTab [(185, C185)], false, [], [(2, [0, 4], []), (3, [0, 4], []), (6, [0, 4, 5], []), (10, [4, 6, 7, 8], []), (12, [4], []), (100000, [4], []), (100001, [0, 4], []), (99999, [2, 3], [])], none, []⟩
noncomputable def L169 : List (LoopS (List (D238) × Bool × Unit)) := [⟨2, ⟨[(0, (.pv .str)), (4, (.ref (.slice Y238) 80 []))], [(80, (.data false (.slice Y238) (.own .z)))]⟩, fun κ => F169_R2 (fun y => κ.exit 0 (SSh.mk' ⟨[(4, (.ref (.slice Y238) 80 []))], [(80, (.data false (.slice Y238) (.own .z)))]⟩ y)) (fun y => κ.ret (SSh.mk' ⟨[(2, (.ref (.slice Y238) 176 [])), (3, (.pv .bool))], [(176, (.data false (.slice Y238) (.own .z)))]⟩ y)) (fun y => κ.ret (SSh.mk' ⟨[(2, (.ref (.slice Y238) 304 [])), (3, (.pv .bool))], [(304, (.data false (.slice Y238) (.own .z)))]⟩ y))⟩]
theorem L169_2 : ∀ (κ : Kont (List (D238) × Bool × Unit)) (N : St → Option (List (D238) × Bool × Unit)) (x : (L169[0]).sh.den), execK E169 (lpOf L169) (nthLoop (codeOf Go.Proofs.Tryz.f169) 0) { κ with normal := fun σ => N (σ.keepAt (E169).hints 2) } ((L169[0]).sh.mk' x) = (L169[0]).R κ (fun x => N ((L169[0]).sh.mk' x)) x :=
  fun κ N x => by kernel_rfl
theorem C169_ok : QuietOk Go.Proofs.Tryz.prog 169 C169 :=
  told (env := E169) (fn := Go.Proofs.Tryz.f169) (c := (codeOf Go.Proofs.Tryz.f169)) (tbl := L169) (ls := [nthLoop (codeOf Go.Proofs.Tryz.f169) 0]) (vars := Go.Proofs.Tryz.f169.results.toList) Go.Proofs.Tryz.func169 (tysC_ok tys_ok rfl rfl) (Told.fnOk (.cons C185_ok .nil) rfl) (by kernel_rfl) (by decide) rfl (by decide) rfl rfl rfl (by kernel_rfl) (.cons L169[0] (by kernel_rfl) L169_2 .nil) (by kernel_rfl)

/- 184: loop.example/g00380/spec.l01Items -/
noncomputable def F184_R2 (e0_0 : List (D59) × Unit → Option (List (D59) × Bool × Unit)) (er_1 : Bool × List (D59) × Unit → Option (List (D59) × Bool × Unit)) (rec : List UInt8 × List (D59) × Unit → Option (List (D59) × Bool × Unit)) (x2 : List UInt8 × List (D59) × Unit) : Option (List (D59) × Bool × Unit) :=
 (cond (decide ((((List.length x2.1) : Nat) : Int) > (0 : Int)))
 (Option.bind (F185 x2.1) fun y4 =>
 (cond (!y4.2.2.1)
 (er_1 (false, [], ()))
 (gd (decide (((List.length x2.2.1) + (List.length [y4.1])) ≤ lim))
 (rec (y4.2.1, (x2.2.1 ++ [y4.1]), ())))))
 (e0_0 (x2.2.1, ())))

noncomputable def F184 (a0 : List UInt8) : Option (List (D59) × Bool × Unit) :=
 (iter (F184_R2
 (fun y6 =>
 (some (y6.1, (true, ()))))
 (fun y7 =>
 (some (y7.2.1, (y7.1, ()))))) fuel (a0, [], ()))

noncomputable def C184 : Fun := ⟨[(.ro .str)], [((.slice Y59), .z), (.bool, .z)], fun z => F184 z.1⟩
noncomputable def E184 : Env := ⟨27, tyTab tys, oneTab ones, fnTab [(185, C185)], false, [], [(2, [0, 4], []), (3, [0, 4], []), (6, [4, 5, 6], []), (8, [4], []), (100000, [4], []), (100001, [0, 4], []), (99999, [2, 3], [])], none, []⟩
noncomputable def L184 : List (LoopS (List (D59) × Bool × Unit)) := [⟨2, ⟨[(0, (.pv .str)), (4, (.ref (.slice Y59) 64 []))], [(64, (.data false (.slice Y59) (.own .z)))]⟩, fun κ => F184_R2 (fun y => κ.exit 0 (SSh.mk' ⟨[(4, (.ref (.slice Y59) 64 []))], [(64, (.data false (.slice Y59) (.own .z)))]⟩ y)) (fun y => κ.ret (SSh.mk' ⟨[(2, (.ref (.slice Y59) 160 [])), (3, (.pv .bool))], [(160, (.data false (.slice Y59) (.own .z)))]⟩ y))⟩]
theorem L184_2 : ∀ (κ : Kont (List (D59) × Bool × Unit)) (N : St → Option (List (D59) × Bool × Unit)) (x : (L184[0]).sh.den), execK E184 (lpOf L184) (nthLoop (codeOf Go.Proofs.Tryz.f184) 0) { κ with normal := fun σ => N (σ.keepAt (E184).hints 2) } ((L184[0]).sh.mk' x) = (L184[0]).R κ (fun x => N ((L184[0]).sh.mk' x)) x :=
  fun κ N x => by kernel_rfl
theorem C184_ok : QuietOk Go.Proofs.Tryz.prog 184 C184 :=
  told (env := E184) (fn := Go.Proofs.Tryz.f184) (c := (codeOf Go.Proofs.Tryz.f184)) (tbl := L184) (ls := [nthLoop (codeOf Go.Proofs.Tryz.f184) 0]) (vars := Go.Proofs.Tryz.f184.results.toList) Go.Proofs.Tryz.func184 (tysC_ok tys_ok rfl rfl) (Told.fnOk (.cons C185_ok .nil) rfl) (by kernel_rfl) (by decide) rfl (by decide) rfl rfl rfl (by kernel_rfl) (.cons L184[0] (by kernel_rfl) L184_2 .nil) (by kernel_rfl)

end Go.V
