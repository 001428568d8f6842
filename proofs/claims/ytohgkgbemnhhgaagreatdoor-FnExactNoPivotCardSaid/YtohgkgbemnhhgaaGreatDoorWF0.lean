/- What functions of the program compute, printed by a program of ours. No condition. -/
import Derived.Test.YtohgkgbemnhhgaaGreatDoorWRep
namespace Go.V
open Go.Proofs
set_option maxRecDepth 100000
set_option linter.unusedVariables false

/- 123: loop.example/g00380/laws.szValue -/
noncomputable def F123 (a0 : D78) (a1 : Int) : Option (Int × Unit) :=
 (cond (decide ((IntKind.wrap IntKind.i64 (a1 - (((List.length a0.2.2.1) : Nat) : Int))) < (0 : Int)))
 (some ((-(1 : Int)), ()))
 (some ((IntKind.wrap IntKind.i64 (a1 - (((List.length a0.2.2.1) : Nat) : Int))), ())))

noncomputable def C123 : Fun := ⟨[(.ro Y78), (.ro (.int .i64))], [((.int .i64), .z)], fun z => F123 z.1 z.2.1⟩
noncomputable def E123 : Env := ⟨13, tyTab tys, oneTab ones, fnTab [], false, [], [(4, [1], []), (99999, [4], [])], none, []⟩
noncomputable def L123 : List (LoopS (Int × Unit)) := []
theorem C123_ok : QuietOk Tryz.prog 123 C123 :=
  told (env := E123) (fn := Tryz.f123) (c := (codeOf Tryz.f123)) (tbl := L123) (ls := []) (vars := Tryz.f123.results.toList) Tryz.func123 (tysC_ok tys_ok rfl rfl) (Told.fnOk .nil rfl) (by kernel_rfl) (by decide) rfl (by decide) rfl rfl rfl (by kernel_rfl) .nil (by kernel_rfl)

/- 158: loop.example/g00380/laws.szVersion -/
noncomputable def F158 (a0 : D80) (a1 : Int) : Option (Int × Unit) :=
 (Option.bind (F123 a0.2.2.1 a1) fun y0 =>
 (cond (decide (y0.1 < (0 : Int)))
 (some ((-(1 : Int)), ()))
 (some (y0.1, ()))))

noncomputable def C158 : Fun := ⟨[(.ro Y80), (.ro (.int .i64))], [((.int .i64), .z)], fun z => F158 z.1 z.2.1⟩
noncomputable def E158 : Env := ⟨12, tyTab tys, oneTab ones, fnTab [(123, C123)], false, [], [(4, [1], []), (99999, [4], [])], none, []⟩
noncomputable def L158 : List (LoopS (Int × Unit)) := []
theorem C158_ok : QuietOk Tryz.prog 158 C158 :=
  told (env := E158) (fn := Tryz.f158) (c := (codeOf Tryz.f158)) (tbl := L158) (ls := []) (vars := Tryz.f158.results.toList) Tryz.func158 (tysC_ok tys_ok rfl rfl) (Told.fnOk (.cons C123_ok .nil) rfl) (by kernel_rfl) (by decide) rfl (by decide) rfl rfl rfl (by kernel_rfl) .nil (by kernel_rfl)

/- 120: loop.example/g00380/laws.szVersionS -/
noncomputable def F120_R5 (e0_0 : Int × Unit → Option (Int × Unit)) (er_1 : Int × Unit → Option (Int × Unit)) (rec : List (D80) × Int × Int × Unit → Option (Int × Unit)) (x3 : List (D80) × Int × Int × Unit) : Option (Int × Unit) :=
 (cond (decide (x3.2.2.1 < (((List.length x3.1) : Nat) : Int)))
 (gd (decide ((0 : Int) ≤ x3.2.2.1))
 (Option.bind x3.1[(Int.toNat x3.2.2.1)]? fun y6 =>
 (Option.bind (F158 y6 x3.2.1) fun y7 =>
 (cond (decide (y7.1 < (0 : Int)))
 (er_1 ((-(1 : Int)), ()))
 (rec (x3.1, y7.1, (IntKind.wrap IntKind.i64 (x3.2.2.1 + (1 : Int))), ()))))))
 (e0_0 (x3.2.1, ())))

noncomputable def F120 (a0 : List (D80)) (a1 : Int) : Option (Int × Unit) :=
 (cond (decide ((IntKind.wrap IntKind.i64 (a1 - (((List.length a0) : Nat) : Int))) < (0 : Int)))
 (some ((-(1 : Int)), ()))
 (iter (F120_R5
 (fun y8 =>
 (some (y8.1, ())))
 (fun y9 =>
 (some (y9.1, ())))) fuel (a0, (IntKind.wrap IntKind.i64 (a1 - (((List.length a0) : Nat) : Int))), (0 : Int), ())))

noncomputable def C120 : Fun := ⟨[(.ro (.slice Y80)), (.ro (.int .i64))], [((.int .i64), .z)], fun z => F120 z.1 z.2.1⟩
noncomputable def E120 : Env := ⟨27, tyTab tys, oneTab ones, fnTab [(158, C158)], false, [], [(4, [0, 1], []), (5, [0, 1, 5], []), (6, [0, 1, 5], []), (7, [0, 1, 5], []), (10, [1], []), (100000, [1], []), (100001, [0, 1, 5], []), (99999, [4], [])], none, []⟩
noncomputable def L120 : List (LoopS (Int × Unit)) := [⟨5, ⟨[(0, (.pv (.slice Y80))), (1, (.pv (.int .i64))), (5, (.pv (.int .i64)))], []⟩, fun κ => F120_R5 (fun y => κ.exit 0 (SSh.mk' ⟨[(1, (.pv (.int .i64)))], []⟩ y)) (fun y => κ.ret (SSh.mk' ⟨[(4, (.pv (.int .i64)))], []⟩ y))⟩]
theorem L120_5 : ∀ (κ : Kont (Int × Unit)) (N : St → Option (Int × Unit)) (x : (L120[0]).sh.den), execK E120 (lpOf L120) (nthLoop (codeOf Tryz.f120) 0) { κ with normal := fun σ => N (σ.keepAt (E120).hints 5) } ((L120[0]).sh.mk' x) = (L120[0]).R κ (fun x => N ((L120[0]).sh.mk' x)) x :=
  fun κ N x => by kernel_rfl
theorem C120_ok : QuietOk Tryz.prog 120 C120 :=
  told (env := E120) (fn := Tryz.f120) (c := (codeOf Tryz.f120)) (tbl := L120) (ls := [nthLoop (codeOf Tryz.f120) 0]) (vars := Tryz.f120.results.toList) Tryz.func120 (tysC_ok tys_ok rfl rfl) (Told.fnOk (.cons C158_ok .nil) rfl) (by kernel_rfl) (by decide) rfl (by decide) rfl rfl rfl (by kernel_rfl) (.cons L120[0] (by kernel_rfl) L120_5 .nil) (by kernel_rfl)

/- 79: loop.example/g00380/laws.szChain -/
noncomputable def F79 (a0 : D76) (a1 : Int) : Option (Int × Unit) :=
 (Option.bind (F120 a0.2.1 a1) fun y0 =>
 (cond (decide (y0.1 < (0 : Int)))
 (some ((-(1 : Int)), ()))
 (some (y0.1, ()))))

noncomputable def C79 : Fun := ⟨[(.ro Y76), (.ro (.int .i64))], [((.int .i64), .z)], fun z => F79 z.1 z.2.1⟩
noncomputable def E79 : Env := ⟨12, tyTab tys, oneTab ones, fnTab [(120, C120)], false, [], [(4, [1], []), (99999, [4], [])], none, []⟩
noncomputable def L79 : List (LoopS (Int × Unit)) := []
theorem C79_ok : QuietOk Tryz.prog 79 C79 :=
  told (env := E79) (fn := Tryz.f79) (c := (codeOf Tryz.f79)) (tbl := L79) (ls := []) (vars := Tryz.f79.results.toList) Tryz.func79 (tysC_ok tys_ok rfl rfl) (Told.fnOk (.cons C120_ok .nil) rfl) (by kernel_rfl) (by decide) rfl (by decide) rfl rfl rfl (by kernel_rfl) .nil (by kernel_rfl)

/- 48: loop.example/g00380/laws.szChainS -/
noncomputable def F48_R5 (e0_0 : Int × Unit → Option (Int × Unit)) (er_1 : Int × Unit → Option (Int × Unit)) (rec : List (D76) × Int × Int × Unit → Option (Int × Unit)) (x3 : List (D76) × Int × Int × Unit) : Option (Int × Unit) :=
 (cond (decide (x3.2.2.1 < (((List.length x3.1) : Nat) : Int)))
 (gd (decide ((0 : Int) ≤ x3.2.2.1))
 (Option.bind x3.1[(Int.toNat x3.2.2.1)]? fun y6 =>
 (Option.bind (F79 y6 x3.2.1) fun y7 =>
 (cond (decide (y7.1 < (0 : Int)))
 (er_1 ((-(1 : Int)), ()))
 (rec (x3.1, y7.1, (IntKind.wrap IntKind.i64 (x3.2.2.1 + (1 : Int))), ()))))))
 (e0_0 (x3.2.1, ())))

noncomputable def F48 (a0 : List (D76)) (a1 : Int) : Option (Int × Unit) :=
 (cond (decide ((IntKind.wrap IntKind.i64 (a1 - (((List.length a0) : Nat) : Int))) < (0 : Int)))
 (some ((-(1 : Int)), ()))
 (iter (F48_R5
 (fun y8 =>
 (some (y8.1, ())))
 (fun y9 =>
 (some (y9.1, ())))) fuel (a0, (IntKind.wrap IntKind.i64 (a1 - (((List.length a0) : Nat) : Int))), (0 : Int), ())))

noncomputable def C48 : Fun := ⟨[(.ro (.slice Y76)), (.ro (.int .i64))], [((.int .i64), .z)], fun z => F48 z.1 z.2.1⟩
noncomputable def E48 : Env := ⟨27, tyTab tys, oneTab ones, fnTab [(79, C79)], false, [], [(4, [0, 1], []), (5, [0, 1, 5], []), (6, [0, 1, 5], []), (7, [0, 1, 5], []), (10, [1], []), (100000, [1], []), (100001, [0, 1, 5], []), (99999, [4], [])], none, []⟩
noncomputable def L48 : List (LoopS (Int × Unit)) := [⟨5, ⟨[(0, (.pv (.slice Y76))), (1, (.pv (.int .i64))), (5, (.pv (.int .i64)))], []⟩, fun κ => F48_R5 (fun y => κ.exit 0 (SSh.mk' ⟨[(1, (.pv (.int .i64)))], []⟩ y)) (fun y => κ.ret (SSh.mk' ⟨[(4, (.pv (.int .i64)))], []⟩ y))⟩]
theorem L48_5 : ∀ (κ : Kont (Int × Unit)) (N : St → Option (Int × Unit)) (x : (L48[0]).sh.den), execK E48 (lpOf L48) (nthLoop (codeOf Tryz.f48) 0) { κ with normal := fun σ => N (σ.keepAt (E48).hints 5) } ((L48[0]).sh.mk' x) = (L48[0]).R κ (fun x => N ((L48[0]).sh.mk' x)) x :=
  fun κ N x => by kernel_rfl
theorem C48_ok : QuietOk Tryz.prog 48 C48 :=
  told (env := E48) (fn := Tryz.f48) (c := (codeOf Tryz.f48)) (tbl := L48) (ls := [nthLoop (codeOf Tryz.f48) 0]) (vars := Tryz.f48.results.toList) Tryz.func48 (tysC_ok tys_ok rfl rfl) (Told.fnOk (.cons C79_ok .nil) rfl) (by kernel_rfl) (by decide) rfl (by decide) rfl rfl rfl (by kernel_rfl) (.cons L48[0] (by kernel_rfl) L48_5 .nil) (by kernel_rfl)

/- 159: loop.example/g00380/laws.szPart -/
noncomputable def F159 (a0 : D193) (a1 : Int) : Option (Int × Unit) :=
 (cond (decide ((IntKind.wrap IntKind.i64 (a1 - (((List.length a0.1) : Nat) : Int))) < (0 : Int)))
 (some ((-(1 : Int)), ()))
 (some ((IntKind.wrap IntKind.i64 (a1 - (((List.length a0.1) : Nat) : Int))), ())))

noncomputable def C159 : Fun := ⟨[(.ro Y193), (.ro (.int .i64))], [((.int .i64), .z)], fun z => F159 z.1 z.2.1⟩
noncomputable def E159 : Env := ⟨13, tyTab tys, oneTab ones, fnTab [], false, [], [(4, [1], []), (99999, [4], [])], none, []⟩
noncomputable def L159 : List (LoopS (Int × Unit)) := []
theorem C159_ok : QuietOk Tryz.prog 159 C159 :=
  told (env := E159) (fn := Tryz.f159) (c := (codeOf Tryz.f159)) (tbl := L159) (ls := []) (vars := Tryz.f159.results.toList) Tryz.func159 (tysC_ok tys_ok rfl rfl) (Told.fnOk .nil rfl) (by kernel_rfl) (by decide) rfl (by decide) rfl rfl rfl (by kernel_rfl) .nil (by kernel_rfl)

/- 121: loop.example/g00380/laws.szPartS -/
noncomputable def F121_R5 (e0_0 : Int × Unit → Option (Int × Unit)) (er_1 : Int × Unit → Option (Int × Unit)) (rec : List (D193) × Int × Int × Unit → Option (Int × Unit)) (x3 : List (D193) × Int × Int × Unit) : Option (Int × Unit) :=
 (cond (decide (x3.2.2.1 < (((List.length x3.1) : Nat) : Int)))
 (gd (decide ((0 : Int) ≤ x3.2.2.1))
 (Option.bind x3.1[(Int.toNat x3.2.2.1)]? fun y6 =>
 (Option.bind (F159 y6 x3.2.1) fun y7 =>
 (cond (decide (y7.1 < (0 : Int)))
 (er_1 ((-(1 : Int)), ()))
 (rec (x3.1, y7.1, (IntKind.wrap IntKind.i64 (x3.2.2.1 + (1 : Int))), ()))))))
 (e0_0 (x3.2.1, ())))

noncomputable def F121 (a0 : List (D193)) (a1 : Int) : Option (Int × Unit) :=
 (cond (decide ((IntKind.wrap IntKind.i64 (a1 - (((List.length a0) : Nat) : Int))) < (0 : Int)))
 (some ((-(1 : Int)), ()))
 (iter (F121_R5
 (fun y8 =>
 (some (y8.1, ())))
 (fun y9 =>
 (some (y9.1, ())))) fuel (a0, (IntKind.wrap IntKind.i64 (a1 - (((List.length a0) : Nat) : Int))), (0 : Int), ())))

noncomputable def C121 : Fun := ⟨[(.ro (.slice Y193)), (.ro (.int .i64))], [((.int .i64), .z)], fun z => F121 z.1 z.2.1⟩
noncomputable def E121 : Env := ⟨27, tyTab tys, oneTab ones, fnTab [(159, C159)], false, [], [(4, [0, 1], []), (5, [0, 1, 5], []), (6, [0, 1, 5], []), (7, [0, 1, 5], []), (10, [1], []), (100000, [1], []), (100001, [0, 1, 5], []), (99999, [4], [])], none, []⟩
noncomputable def L121 : List (LoopS (Int × Unit)) := [⟨5, ⟨[(0, (.pv (.slice Y193))), (1, (.pv (.int .i64))), (5, (.pv (.int .i64)))], []⟩, fun κ => F121_R5 (fun y => κ.exit 0 (SSh.mk' ⟨[(1, (.pv (.int .i64)))], []⟩ y)) (fun y => κ.ret (SSh.mk' ⟨[(4, (.pv (.int .i64)))], []⟩ y))⟩]
theorem L121_5 : ∀ (κ : Kont (Int × Unit)) (N : St → Option (Int × Unit)) (x : (L121[0]).sh.den), execK E121 (lpOf L121) (nthLoop (codeOf Tryz.f121) 0) { κ with normal := fun σ => N (σ.keepAt (E121).hints 5) } ((L121[0]).sh.mk' x) = (L121[0]).R κ (fun x => N ((L121[0]).sh.mk' x)) x :=
  fun κ N x => by kernel_rfl
theorem C121_ok : QuietOk Tryz.prog 121 C121 :=
  told (env := E121) (fn := Tryz.f121) (c := (codeOf Tryz.f121)) (tbl := L121) (ls := [nthLoop (codeOf Tryz.f121) 0]) (vars := Tryz.f121.results.toList) Tryz.func121 (tysC_ok tys_ok rfl rfl) (Told.fnOk (.cons C159_ok .nil) rfl) (by kernel_rfl) (by decide) rfl (by decide) rfl rfl rfl (by kernel_rfl) (.cons L121[0] (by kernel_rfl) L121_5 .nil) (by kernel_rfl)

/- 80: loop.example/g00380/laws.szDef -/
noncomputable def F80 (a0 : D139) (a1 : Int) : Option (Int × Unit) :=
 (cond (decide ((IntKind.wrap IntKind.i64 (a1 - (((List.length a0.1) : Nat) : Int))) < (0 : Int)))
 (some ((-(1 : Int)), ()))
 (Option.bind (F121 a0.2.1 (IntKind.wrap IntKind.i64 (a1 - (((List.length a0.1) : Nat) : Int)))) fun y1 =>
 (cond (decide (y1.1 < (0 : Int)))
 (some ((-(1 : Int)), ()))
 (some (y1.1, ())))))

noncomputable def C80 : Fun := ⟨[(.ro Y139), (.ro (.int .i64))], [((.int .i64), .z)], fun z => F80 z.1 z.2.1⟩
noncomputable def E80 : Env := ⟨19, tyTab tys, oneTab ones, fnTab [(121, C121)], false, [], [(4, [1, 2], []), (7, [1], []), (99999, [4], [])], none, []⟩
noncomputable def L80 : List (LoopS (Int × Unit)) := []
theorem C80_ok : QuietOk Tryz.prog 80 C80 :=
  told (env := E80) (fn := Tryz.f80) (c := (codeOf Tryz.f80)) (tbl := L80) (ls := []) (vars := Tryz.f80.results.toList) Tryz.func80 (tysC_ok tys_ok rfl rfl) (Told.fnOk (.cons C121_ok .nil) rfl) (by kernel_rfl) (by decide) rfl (by decide) rfl rfl rfl (by kernel_rfl) .nil (by kernel_rfl)

/- 49: loop.example/g00380/laws.szDefS -/
noncomputable def F49_R5 (e0_0 : Int × Unit → Option (Int × Unit)) (er_1 : Int × Unit → Option (Int × Unit)) (rec : List (D139) × Int × Int × Unit → Option (Int × Unit)) (x3 : List (D139) × Int × Int × Unit) : Option (Int × Unit) :=
 (cond (decide (x3.2.2.1 < (((List.length x3.1) : Nat) : Int)))
 (gd (decide ((0 : Int) ≤ x3.2.2.1))
 (Option.bind x3.1[(Int.toNat x3.2.2.1)]? fun y6 =>
 (Option.bind (F80 y6 x3.2.1) fun y7 =>
 (cond (decide (y7.1 < (0 : Int)))
 (er_1 ((-(1 : Int)), ()))
 (rec (x3.1, y7.1, (IntKind.wrap IntKind.i64 (x3.2.2.1 + (1 : Int))), ()))))))
 (e0_0 (x3.2.1, ())))

noncomputable def F49 (a0 : List (D139)) (a1 : Int) : Option (Int × Unit) :=
 (cond (decide ((IntKind.wrap IntKind.i64 (a1 - (((List.length a0) : Nat) : Int))) < (0 : Int)))
 (some ((-(1 : Int)), ()))
 (iter (F49_R5
 (fun y8 =>
 (some (y8.1, ())))
 (fun y9 =>
 (some (y9.1, ())))) fuel (a0, (IntKind.wrap IntKind.i64 (a1 - (((List.length a0) : Nat) : Int))), (0 : Int), ())))

noncomputable def C49 : Fun := ⟨[(.ro (.slice Y139)), (.ro (.int .i64))], [((.int .i64), .z)], fun z => F49 z.1 z.2.1⟩
noncomputable def E49 : Env := ⟨27, tyTab tys, oneTab ones, fnTab [(80, C80)], false, [], [(4, [0, 1], []), (5, [0, 1, 5], []), (6, [0, 1, 5], []), (7, [0, 1, 5], []), (10, [1], []), (100000, [1], []), (100001, [0, 1, 5], []), (99999, [4], [])], none, []⟩
noncomputable def L49 : List (LoopS (Int × Unit)) := [⟨5, ⟨[(0, (.pv (.slice Y139))), (1, (.pv (.int .i64))), (5, (.pv (.int .i64)))], []⟩, fun κ => F49_R5 (fun y => κ.exit 0 (SSh.mk' ⟨[(1, (.pv (.int .i64)))], []⟩ y)) (fun y => κ.ret (SSh.mk' ⟨[(4, (.pv (.int .i64)))], []⟩ y))⟩]
theorem L49_5 : ∀ (κ : Kont (Int × Unit)) (N : St → Option (Int × Unit)) (x : (L49[0]).sh.den), execK E49 (lpOf L49) (nthLoop (codeOf Tryz.f49) 0) { κ with normal := fun σ => N (σ.keepAt (E49).hints 5) } ((L49[0]).sh.mk' x) = (L49[0]).R κ (fun x => N ((L49[0]).sh.mk' x)) x :=
  fun κ N x => by kernel_rfl
theorem C49_ok : QuietOk Tryz.prog 49 C49 :=
  told (env := E49) (fn := Tryz.f49) (c := (codeOf Tryz.f49)) (tbl := L49) (ls := [nthLoop (codeOf Tryz.f49) 0]) (vars := Tryz.f49.results.toList) Tryz.func49 (tysC_ok tys_ok rfl rfl) (Told.fnOk (.cons C80_ok .nil) rfl) (by kernel_rfl) (by decide) rfl (by decide) rfl rfl rfl (by kernel_rfl) (.cons L49[0] (by kernel_rfl) L49_5 .nil) (by kernel_rfl)

/- 23: loop.example/g00380/laws.szColl -/
noncomputable def F23 (a0 : D57) (a1 : Int) : Option (Int × Unit) :=
 (cond (decide ((IntKind.wrap IntKind.i64 (a1 - (((List.length a0.1) : Nat) : Int))) < (0 : Int)))
 (some ((-(1 : Int)), ()))
 (Option.bind (F48 a0.2.1 (IntKind.wrap IntKind.i64 (a1 - (((List.length a0.1) : Nat) : Int)))) fun y1 =>
 (cond (decide (y1.1 < (0 : Int)))
 (some ((-(1 : Int)), ()))
 (Option.bind (F49 a0.2.2.1 y1.1) fun y3 =>
 (cond (decide (y3.1 < (0 : Int)))
 (some ((-(1 : Int)), ()))
 (some (y3.1, ())))))))

noncomputable def C23 : Fun := ⟨[(.ro Y57), (.ro (.int .i64))], [((.int .i64), .z)], fun z => F23 z.1 z.2.1⟩
noncomputable def E23 : Env := ⟨25, tyTab tys, oneTab ones, fnTab [(48, C48), (49, C49)], false, [], [(4, [1, 2], []), (7, [1, 2], []), (10, [1], []), (99999, [4], [])], none, []⟩
noncomputable def L23 : List (LoopS (Int × Unit)) := []
theorem C23_ok : QuietOk Tryz.prog 23 C23 :=
  told (env := E23) (fn := Tryz.f23) (c := (codeOf Tryz.f23)) (tbl := L23) (ls := []) (vars := Tryz.f23.results.toList) Tryz.func23 (tysC_ok tys_ok rfl rfl) (Told.fnOk (.cons C48_ok (.cons C49_ok .nil)) rfl) (by kernel_rfl) (by decide) rfl (by decide) rfl rfl rfl (by kernel_rfl) .nil (by kernel_rfl)

/- 9: loop.example/g00380/laws.szCollS -/
noncomputable def F9_R5 (e0_0 : Int × Unit → Option (Int × Unit)) (er_1 : Int × Unit → Option (Int × Unit)) (rec : List (D57) × Int × Int × Unit → Option (Int × Unit)) (x3 : List (D57) × Int × Int × Unit) : Option (Int × Unit) :=
 (cond (decide (x3.2.2.1 < (((List.length x3.1) : Nat) : Int)))
 (gd (decide ((0 : Int) ≤ x3.2.2.1))
 (Option.bind x3.1[(Int.toNat x3.2.2.1)]? fun y6 =>
 (Option.bind (F23 y6 x3.2.1) fun y7 =>
 (cond (decide (y7.1 < (0 : Int)))
 (er_1 ((-(1 : Int)), ()))
 (rec (x3.1, y7.1, (IntKind.wrap IntKind.i64 (x3.2.2.1 + (1 : Int))), ()))))))
 (e0_0 (x3.2.1, ())))

noncomputable def F9 (a0 : List (D57)) (a1 : Int) : Option (Int × Unit) :=
 (cond (decide ((IntKind.wrap IntKind.i64 (a1 - (((List.length a0) : Nat) : Int))) < (0 : Int)))
 (some ((-(1 : Int)), ()))
 (iter (F9_R5
 (fun y8 =>
 (some (y8.1, ())))
 (fun y9 =>
 (some (y9.1, ())))) fuel (a0, (IntKind.wrap IntKind.i64 (a1 - (((List.length a0) : Nat) : Int))), (0 : Int), ())))

noncomputable def C9 : Fun := ⟨[(.ro (.slice Y57)), (.ro (.int .i64))], [((.int .i64), .z)], fun z => F9 z.1 z.2.1⟩
noncomputable def E9 : Env := ⟨27, tyTab tys, oneTab ones, fnTab [(23, C23)], false, [], [(4, [0, 1], []), (5, [0, 1, 5], []), (6, [0, 1, 5], []), (7, [0, 1, 5], []), (10, [1], []), (100000, [1], []), (100001, [0, 1, 5], []), (99999, [4], [])], none, []⟩
noncomputable def L9 : List (LoopS (Int × Unit)) := [⟨5, ⟨[(0, (.pv (.slice Y57))), (1, (.pv (.int .i64))), (5, (.pv (.int .i64)))], []⟩, fun κ => F9_R5 (fun y => κ.exit 0 (SSh.mk' ⟨[(1, (.pv (.int .i64)))], []⟩ y)) (fun y => κ.ret (SSh.mk' ⟨[(4, (.pv (.int .i64)))], []⟩ y))⟩]
theorem L9_5 : ∀ (κ : Kont (Int × Unit)) (N : St → Option (Int × Unit)) (x : (L9[0]).sh.den), execK E9 (lpOf L9) (nthLoop (codeOf Tryz.f9) 0) { κ with normal := fun σ => N (σ.keepAt (E9).hints 5) } ((L9[0]).sh.mk' x) = (L9[0]).R κ (fun x => N ((L9[0]).sh.mk' x)) x :=
  fun κ N x => by kernel_rfl
theorem C9_ok : QuietOk Tryz.prog 9 C9 :=
  told (env := E9) (fn := Tryz.f9) (c := (codeOf Tryz.f9)) (tbl := L9) (ls := [nthLoop (codeOf Tryz.f9) 0]) (vars := Tryz.f9.results.toList) Tryz.func9 (tysC_ok tys_ok rfl rfl) (Told.fnOk (.cons C23_ok .nil) rfl) (by kernel_rfl) (by decide) rfl (by decide) rfl rfl rfl (by kernel_rfl) (.cons L9[0] (by kernel_rfl) L9_5 .nil) (by kernel_rfl)

/- 226: loop.example/g00380/laws.szTerm -/
noncomputable def F226 (a0 : D182) (a1 : Int) : Option (Int × Unit) :=
 (cond (decide ((IntKind.wrap IntKind.i64 (a1 - (((List.length a0.2.1) : Nat) : Int))) < (0 : Int)))
 (some ((-(1 : Int)), ()))
 (Option.bind (F123 a0.2.2.1 (IntKind.wrap IntKind.i64 (a1 - (((List.length a0.2.1) : Nat) : Int)))) fun y1 =>
 (cond (decide (y1.1 < (0 : Int)))
 (some ((-(1 : Int)), ()))
 (some (y1.1, ())))))

noncomputable def C226 : Fun := ⟨[(.ro Y182), (.ro (.int .i64))], [((.int .i64), .z)], fun z => F226 z.1 z.2.1⟩
noncomputable def E226 : Env := ⟨19, tyTab tys, oneTab ones, fnTab [(123, C123)], false, [], [(4, [1, 2], []), (7, [1], []), (99999, [4], [])], none, []⟩
noncomputable def L226 : List (LoopS (Int × Unit)) := []
theorem C226_ok : QuietOk Tryz.prog 226 C226 :=
  told (env := E226) (fn := Tryz.f226) (c := (codeOf Tryz.f226)) (tbl := L226) (ls := []) (vars := Tryz.f226.results.toList) Tryz.func226 (tysC_ok tys_ok rfl rfl) (Told.fnOk (.cons C123_ok .nil) rfl) (by kernel_rfl) (by decide) rfl (by decide) rfl rfl rfl (by kernel_rfl) .nil (by kernel_rfl)

/- 213: loop.example/g00380/laws.szTermS -/
noncomputable def F213_R5 (e0_0 : Int × Unit → Option (Int × Unit)) (er_1 : Int × Unit → Option (Int × Unit)) (rec : List (D182) × Int × Int × Unit → Option (Int × Unit)) (x3 : List (D182) × Int × Int × Unit) : Option (Int × Unit) :=
 (cond (decide (x3.2.2.1 < (((List.length x3.1) : Nat) : Int)))
 (gd (decide ((0 : Int) ≤ x3.2.2.1))
 (Option.bind x3.1[(Int.toNat x3.2.2.1)]? fun y6 =>
 (Option.bind (F226 y6 x3.2.1) fun y7 =>
 (cond (decide (y7.1 < (0 : Int)))
 (er_1 ((-(1 : Int)), ()))
 (rec (x3.1, y7.1, (IntKind.wrap IntKind.i64 (x3.2.2.1 + (1 : Int))), ()))))))
 (e0_0 (x3.2.1, ())))

noncomputable def F213 (a0 : List (D182)) (a1 : Int) : Option (Int × Unit) :=
 (cond (decide ((IntKind.wrap IntKind.i64 (a1 - (((List.length a0) : Nat) : Int))) < (0 : Int)))
 (some ((-(1 : Int)), ()))
 (iter (F213_R5
 (fun y8 =>
 (some (y8.1, ())))
 (fun y9 =>
 (some (y9.1, ())))) fuel (a0, (IntKind.wrap IntKind.i64 (a1 - (((List.length a0) : Nat) : Int))), (0 : Int), ())))

noncomputable def C213 : Fun := ⟨[(.ro (.slice Y182)), (.ro (.int .i64))], [((.int .i64), .z)], fun z => F213 z.1 z.2.1⟩
noncomputable def E213 : Env := ⟨27, tyTab tys, oneTab ones, fnTab [(226, C226)], false, [], [(4, [0, 1], []), (5, [0, 1, 5], []), (6, [0, 1, 5], []), (7, [0, 1, 5], []), (10, [1], []), (100000, [1], []), (100001, [0, 1, 5], []), (99999, [4], [])], none, []⟩
noncomputable def L213 : List (LoopS (Int × Unit)) := [⟨5, ⟨[(0, (.pv (.slice Y182))), (1, (.pv (.int .i64))), (5, (.pv (.int .i64)))], []⟩, fun κ => F213_R5 (fun y => κ.exit 0 (SSh.mk' ⟨[(1, (.pv (.int .i64)))], []⟩ y)) (fun y => κ.ret (SSh.mk' ⟨[(4, (.pv (.int .i64)))], []⟩ y))⟩]
theorem L213_5 : ∀ (κ : Kont (Int × Unit)) (N : St → Option (Int × Unit)) (x : (L213[0]).sh.den), execK E213 (lpOf L213) (nthLoop (codeOf Tryz.f213) 0) { κ with normal := fun σ => N (σ.keepAt (E213).hints 5) } ((L213[0]).sh.mk' x) = (L213[0]).R κ (fun x => N ((L213[0]).sh.mk' x)) x :=
  fun κ N x => by kernel_rfl
theorem C213_ok : QuietOk Tryz.prog 213 C213 :=
  told (env := E213) (fn := Tryz.f213) (c := (codeOf Tryz.f213)) (tbl := L213) (ls := [nthLoop (codeOf Tryz.f213) 0]) (vars := Tryz.f213.results.toList) Tryz.func213 (tysC_ok tys_ok rfl rfl) (Told.fnOk (.cons C226_ok .nil) rfl) (by kernel_rfl) (by decide) rfl (by decide) rfl rfl rfl (by kernel_rfl) (.cons L213[0] (by kernel_rfl) L213_5 .nil) (by kernel_rfl)

/- 188: loop.example/g00380/laws.szClause -/
noncomputable def F188 (a0 : D163) (a1 : Int) : Option (Int × Unit) :=
 (Option.bind (F213 a0.1 a1) fun y0 =>
 (cond (decide (y0.1 < (0 : Int)))
 (some ((-(1 : Int)), ()))
 (some (y0.1, ()))))

noncomputable def C188 : Fun := ⟨[(.ro Y163), (.ro (.int .i64))], [((.int .i64), .z)], fun z => F188 z.1 z.2.1⟩
noncomputable def E188 : Env := ⟨12, tyTab tys, oneTab ones, fnTab [(213, C213)], false, [], [(4, [1], []), (99999, [4], [])], none, []⟩
noncomputable def L188 : List (LoopS (Int × Unit)) := []
theorem C188_ok : QuietOk Tryz.prog 188 C188 :=
  told (env := E188) (fn := Tryz.f188) (c := (codeOf Tryz.f188)) (tbl := L188) (ls := []) (vars := Tryz.f188.results.toList) Tryz.func188 (tysC_ok tys_ok rfl rfl) (Told.fnOk (.cons C213_ok .nil) rfl) (by kernel_rfl) (by decide) rfl (by decide) rfl rfl rfl (by kernel_rfl) .nil (by kernel_rfl)

/- 160: loop.example/g00380/laws.szClauseS -/
noncomputable def F160_R5 (e0_0 : Int × Unit → Option (Int × Unit)) (er_1 : Int × Unit → Option (Int × Unit)) (rec : List (D163) × Int × Int × Unit → Option (Int × Unit)) (x3 : List (D163) × Int × Int × Unit) : Option (Int × Unit) :=
 (cond (decide (x3.2.2.1 < (((List.length x3.1) : Nat) : Int)))
 (gd (decide ((0 : Int) ≤ x3.2.2.1))
 (Option.bind x3.1[(Int.toNat x3.2.2.1)]? fun y6 =>
 (Option.bind (F188 y6 x3.2.1) fun y7 =>
 (cond (decide (y7.1 < (0 : Int)))
 (er_1 ((-(1 : Int)), ()))
 (rec (x3.1, y7.1, (IntKind.wrap IntKind.i64 (x3.2.2.1 + (1 : Int))), ()))))))
 (e0_0 (x3.2.1, ())))

noncomputable def F160 (a0 : List (D163)) (a1 : Int) : Option (Int × Unit) :=
 (cond (decide ((IntKind.wrap IntKind.i64 (a1 - (((List.length a0) : Nat) : Int))) < (0 : Int)))
 (some ((-(1 : Int)), ()))
 (iter (F160_R5
 (fun y8 =>
 (some (y8.1, ())))
 (fun y9 =>
 (some (y9.1, ())))) fuel (a0, (IntKind.wrap IntKind.i64 (a1 - (((List.length a0) : Nat) : Int))), (0 : Int), ())))

noncomputable def C160 : Fun := ⟨[(.ro (.slice Y163)), (.ro (.int .i64))], [((.int .i64), .z)], fun z => F160 z.1 z.2.1⟩
noncomputable def E160 : Env := ⟨27, tyTab tys, oneTab ones, fnTab [(188, C188)], false, [], [(4, [0, 1], []), (5, [0, 1, 5], []), (6, [0, 1, 5], []), (7, [0, 1, 5], []), (10, [1], []), (100000, [1], []), (100001, [0, 1, 5], []), (99999, [4], [])], none, []⟩
noncomputable def L160 : List (LoopS (Int × Unit)) := [⟨5, ⟨[(0, (.pv (.slice Y163))), (1, (.pv (.int .i64))), (5, (.pv (.int .i64)))], []⟩, fun κ => F160_R5 (fun y => κ.exit 0 (SSh.mk' ⟨[(1, (.pv (.int .i64)))], []⟩ y)) (fun y => κ.ret (SSh.mk' ⟨[(4, (.pv (.int .i64)))], []⟩ y))⟩]
theorem L160_5 : ∀ (κ : Kont (Int × Unit)) (N : St → Option (Int × Unit)) (x : (L160[0]).sh.den), execK E160 (lpOf L160) (nthLoop (codeOf Tryz.f160) 0) { κ with normal := fun σ => N (σ.keepAt (E160).hints 5) } ((L160[0]).sh.mk' x) = (L160[0]).R κ (fun x => N ((L160[0]).sh.mk' x)) x :=
  fun κ N x => by kernel_rfl
theorem C160_ok : QuietOk Tryz.prog 160 C160 :=
  told (env := E160) (fn := Tryz.f160) (c := (codeOf Tryz.f160)) (tbl := L160) (ls := [nthLoop (codeOf Tryz.f160) 0]) (vars := Tryz.f160.results.toList) Tryz.func160 (tysC_ok tys_ok rfl rfl) (Told.fnOk (.cons C188_ok .nil) rfl) (by kernel_rfl) (by decide) rfl (by decide) rfl rfl rfl (by kernel_rfl) (.cons L160[0] (by kernel_rfl) L160_5 .nil) (by kernel_rfl)

/- 122: loop.example/g00380/laws.szFilter -/
noncomputable def F122 (a0 : D91) (a1 : Int) : Option (Int × Unit) :=
 (Option.bind (F160 a0.1 a1) fun y0 =>
 (cond (decide (y0.1 < (0 : Int)))
 (some ((-(1 : Int)), ()))
 (some (y0.1, ()))))

noncomputable def C122 : Fun := ⟨[(.ro Y91), (.ro (.int .i64))], [((.int .i64), .z)], fun z => F122 z.1 z.2.1⟩
noncomputable def E122 : Env := ⟨12, tyTab tys, oneTab ones, fnTab [(160, C160)], false, [], [(4, [1], []), (99999, [4], [])], none, []⟩
noncomputable def L122 : List (LoopS (Int × Unit)) := []
theorem C122_ok : QuietOk Tryz.prog 122 C122 :=
  told (env := E122) (fn := Tryz.f122) (c := (codeOf Tryz.f122)) (tbl := L122) (ls := []) (vars := Tryz.f122.results.toList) Tryz.func122 (tysC_ok tys_ok rfl rfl) (Told.fnOk (.cons C160_ok .nil) rfl) (by kernel_rfl) (by decide) rfl (by decide) rfl rfl rfl (by kernel_rfl) .nil (by kernel_rfl)

/- 81: loop.example/g00380/laws.szRead -/
noncomputable def F81 (a0 : D93) (a1 : Int) : Option (Int × Unit) :=
 (cond (decide ((IntKind.wrap IntKind.i64 (a1 - (((List.length a0.1) : Nat) : Int))) < (0 : Int)))
 (some ((-(1 : Int)), ()))
 (Option.bind (F122 a0.2.1 (IntKind.wrap IntKind.i64 (a1 - (((List.length a0.1) : Nat) : Int)))) fun y1 =>
 (cond (decide (y1.1 < (0 : Int)))
 (some ((-(1 : Int)), ()))
 (some (y1.1, ())))))

noncomputable def C81 : Fun := ⟨[(.ro Y93), (.ro (.int .i64))], [((.int .i64), .z)], fun z => F81 z.1 z.2.1⟩
noncomputable def E81 : Env := ⟨19, tyTab tys, oneTab ones, fnTab [(122, C122)], false, [], [(4, [1, 2], []), (7, [1], []), (99999, [4], [])], none, []⟩
noncomputable def L81 : List (LoopS (Int × Unit)) := []
theorem C81_ok : QuietOk Tryz.prog 81 C81 :=
  told (env := E81) (fn := Tryz.f81) (c := (codeOf Tryz.f81)) (tbl := L81) (ls := []) (vars := Tryz.f81.results.toList) Tryz.func81 (tysC_ok tys_ok rfl rfl) (Told.fnOk (.cons C122_ok .nil) rfl) (by kernel_rfl) (by decide) rfl (by decide) rfl rfl rfl (by kernel_rfl) .nil (by kernel_rfl)

/- 50: loop.example/g00380/laws.szReadS -/
noncomputable def F50_R5 (e0_0 : Int × Unit → Option (Int × Unit)) (er_1 : Int × Unit → Option (Int × Unit)) (rec : List (D93) × Int × Int × Unit → Option (Int × Unit)) (x3 : List (D93) × Int × Int × Unit) : Option (Int × Unit) :=
 (cond (decide (x3.2.2.1 < (((List.length x3.1) : Nat) : Int)))
 (gd (decide ((0 : Int) ≤ x3.2.2.1))
 (Option.bind x3.1[(Int.toNat x3.2.2.1)]? fun y6 =>
 (Option.bind (F81 y6 x3.2.1) fun y7 =>
 (cond (decide (y7.1 < (0 : Int)))
 (er_1 ((-(1 : Int)), ()))
 (rec (x3.1, y7.1, (IntKind.wrap IntKind.i64 (x3.2.2.1 + (1 : Int))), ()))))))
 (e0_0 (x3.2.1, ())))

noncomputable def F50 (a0 : List (D93)) (a1 : Int) : Option (Int × Unit) :=
 (cond (decide ((IntKind.wrap IntKind.i64 (a1 - (((List.length a0) : Nat) : Int))) < (0 : Int)))
 (some ((-(1 : Int)), ()))
 (iter (F50_R5
 (fun y8 =>
 (some (y8.1, ())))
 (fun y9 =>
 (some (y9.1, ())))) fuel (a0, (IntKind.wrap IntKind.i64 (a1 - (((List.length a0) : Nat) : Int))), (0 : Int), ())))

noncomputable def C50 : Fun := ⟨[(.ro (.slice Y93)), (.ro (.int .i64))], [((.int .i64), .z)], fun z => F50 z.1 z.2.1⟩
noncomputable def E50 : Env := ⟨27, tyTab tys, oneTab ones, fnTab [(81, C81)], false, [], [(4, [0, 1], []), (5, [0, 1, 5], []), (6, [0, 1, 5], []), (7, [0, 1, 5], []), (10, [1], []), (100000, [1], []), (100001, [0, 1, 5], []), (99999, [4], [])], none, []⟩
noncomputable def L50 : List (LoopS (Int × Unit)) := [⟨5, ⟨[(0, (.pv (.slice Y93))), (1, (.pv (.int .i64))), (5, (.pv (.int .i64)))], []⟩, fun κ => F50_R5 (fun y => κ.exit 0 (SSh.mk' ⟨[(1, (.pv (.int .i64)))], []⟩ y)) (fun y => κ.ret (SSh.mk' ⟨[(4, (.pv (.int .i64)))], []⟩ y))⟩]
theorem L50_5 : ∀ (κ : Kont (Int × Unit)) (N : St → Option (Int × Unit)) (x : (L50[0]).sh.den), execK E50 (lpOf L50) (nthLoop (codeOf Tryz.f50) 0) { κ with normal := fun σ => N (σ.keepAt (E50).hints 5) } ((L50[0]).sh.mk' x) = (L50[0]).R κ (fun x => N ((L50[0]).sh.mk' x)) x :=
  fun κ N x => by kernel_rfl
theorem C50_ok : QuietOk Tryz.prog 50 C50 :=
  told (env := E50) (fn := Tryz.f50) (c := (codeOf Tryz.f50)) (tbl := L50) (ls := [nthLoop (codeOf Tryz.f50) 0]) (vars := Tryz.f50.results.toList) Tryz.func50 (tysC_ok tys_ok rfl rfl) (Told.fnOk (.cons C81_ok .nil) rfl) (by kernel_rfl) (by decide) rfl (by decide) rfl rfl rfl (by kernel_rfl) (.cons L50[0] (by kernel_rfl) L50_5 .nil) (by kernel_rfl)

/- 82: loop.example/g00380/laws.szWrite -/
noncomputable def F82 (a0 : D87) (a1 : Int) : Option (Int × Unit) :=
 (cond (decide ((IntKind.wrap IntKind.i64 (a1 - (((List.length a0.1) : Nat) : Int))) < (0 : Int)))
 (some ((-(1 : Int)), ()))
 (Option.bind (F123 a0.2.2.2.1 (IntKind.wrap IntKind.i64 (a1 - (((List.length a0.1) : Nat) : Int)))) fun y1 =>
 (cond (decide (y1.1 < (0 : Int)))
 (some ((-(1 : Int)), ()))
 (some (y1.1, ())))))

noncomputable def C82 : Fun := ⟨[(.ro Y87), (.ro (.int .i64))], [((.int .i64), .z)], fun z => F82 z.1 z.2.1⟩
noncomputable def E82 : Env := ⟨19, tyTab tys, oneTab ones, fnTab [(123, C123)], false, [], [(4, [1, 2], []), (7, [1], []), (99999, [4], [])], none, []⟩
noncomputable def L82 : List (LoopS (Int × Unit)) := []
theorem C82_ok : QuietOk Tryz.prog 82 C82 :=
  told (env := E82) (fn := Tryz.f82) (c := (codeOf Tryz.f82)) (tbl := L82) (ls := []) (vars := Tryz.f82.results.toList) Tryz.func82 (tysC_ok tys_ok rfl rfl) (Told.fnOk (.cons C123_ok .nil) rfl) (by kernel_rfl) (by decide) rfl (by decide) rfl rfl rfl (by kernel_rfl) .nil (by kernel_rfl)

/- 51: loop.example/g00380/laws.szWriteS -/
noncomputable def F51_R5 (e0_0 : Int × Unit → Option (Int × Unit)) (er_1 : Int × Unit → Option (Int × Unit)) (rec : List (D87) × Int × Int × Unit → Option (Int × Unit)) (x3 : List (D87) × Int × Int × Unit) : Option (Int × Unit) :=
 (cond (decide (x3.2.2.1 < (((List.length x3.1) : Nat) : Int)))
 (gd (decide ((0 : Int) ≤ x3.2.2.1))
 (Option.bind x3.1[(Int.toNat x3.2.2.1)]? fun y6 =>
 (Option.bind (F82 y6 x3.2.1) fun y7 =>
 (cond (decide (y7.1 < (0 : Int)))
 (er_1 ((-(1 : Int)), ()))
 (rec (x3.1, y7.1, (IntKind.wrap IntKind.i64 (x3.2.2.1 + (1 : Int))), ()))))))
 (e0_0 (x3.2.1, ())))

noncomputable def F51 (a0 : List (D87)) (a1 : Int) : Option (Int × Unit) :=
 (cond (decide ((IntKind.wrap IntKind.i64 (a1 - (((List.length a0) : Nat) : Int))) < (0 : Int)))
 (some ((-(1 : Int)), ()))
 (iter (F51_R5
 (fun y8 =>
 (some (y8.1, ())))
 (fun y9 =>
 (some (y9.1, ())))) fuel (a0, (IntKind.wrap IntKind.i64 (a1 - (((List.length a0) : Nat) : Int))), (0 : Int), ())))

noncomputable def C51 : Fun := ⟨[(.ro (.slice Y87)), (.ro (.int .i64))], [((.int .i64), .z)], fun z => F51 z.1 z.2.1⟩
noncomputable def E51 : Env := ⟨27, tyTab tys, oneTab ones, fnTab [(82, C82)], false, [], [(4, [0, 1], []), (5, [0, 1, 5], []), (6, [0, 1, 5], []), (7, [0, 1, 5], []), (10, [1], []), (100000, [1], []), (100001, [0, 1, 5], []), (99999, [4], [])], none, []⟩
noncomputable def L51 : List (LoopS (Int × Unit)) := [⟨5, ⟨[(0, (.pv (.slice Y87))), (1, (.pv (.int .i64))), (5, (.pv (.int .i64)))], []⟩, fun κ => F51_R5 (fun y => κ.exit 0 (SSh.mk' ⟨[(1, (.pv (.int .i64)))], []⟩ y)) (fun y => κ.ret (SSh.mk' ⟨[(4, (.pv (.int .i64)))], []⟩ y))⟩]
theorem L51_5 : ∀ (κ : Kont (Int × Unit)) (N : St → Option (Int × Unit)) (x : (L51[0]).sh.den), execK E51 (lpOf L51) (nthLoop (codeOf Tryz.f51) 0) { κ with normal := fun σ => N (σ.keepAt (E51).hints 5) } ((L51[0]).sh.mk' x) = (L51[0]).R κ (fun x => N ((L51[0]).sh.mk' x)) x :=
  fun κ N x => by kernel_rfl
theorem C51_ok : QuietOk Tryz.prog 51 C51 :=
  told (env := E51) (fn := Tryz.f51) (c := (codeOf Tryz.f51)) (tbl := L51) (ls := [nthLoop (codeOf Tryz.f51) 0]) (vars := Tryz.f51.results.toList) Tryz.func51 (tysC_ok tys_ok rfl rfl) (Told.fnOk (.cons C82_ok .nil) rfl) (by kernel_rfl) (by decide) rfl (by decide) rfl rfl rfl (by kernel_rfl) (.cons L51[0] (by kernel_rfl) L51_5 .nil) (by kernel_rfl)

/- 24: loop.example/g00380/laws.szTxn -/
noncomputable def F24 (a0 : D62) (a1 : Int) : Option (Int × Unit) :=
 (Option.bind (F50 a0.2.2.1 a1) fun y0 =>
 (cond (decide (y0.1 < (0 : Int)))
 (some ((-(1 : Int)), ()))
 (Option.bind (F51 a0.2.2.2.1 y0.1) fun y2 =>
 (cond (decide (y2.1 < (0 : Int)))
 (some ((-(1 : Int)), ()))
 (some (y2.1, ()))))))

noncomputable def C24 : Fun := ⟨[(.ro Y62), (.ro (.int .i64))], [((.int .i64), .z)], fun z => F24 z.1 z.2.1⟩
noncomputable def E24 : Env := ⟨18, tyTab tys, oneTab ones, fnTab [(50, C50), (51, C51)], false, [], [(4, [1, 2], []), (7, [1], []), (99999, [4], [])], none, []⟩
noncomputable def L24 : List (LoopS (Int × Unit)) := []
theorem C24_ok : QuietOk Tryz.prog 24 C24 :=
  told (env := E24) (fn := Tryz.f24) (c := (codeOf Tryz.f24)) (tbl := L24) (ls := []) (vars := Tryz.f24.results.toList) Tryz.func24 (tysC_ok tys_ok rfl rfl) (Told.fnOk (.cons C50_ok (.cons C51_ok .nil)) rfl) (by kernel_rfl) (by decide) rfl (by decide) rfl rfl rfl (by kernel_rfl) .nil (by kernel_rfl)

/- 10: loop.example/g00380/laws.szTxnS -/
noncomputable def F10_R5 (e0_0 : Int × Unit → Option (Int × Unit)) (er_1 : Int × Unit → Option (Int × Unit)) (rec : List (D62) × Int × Int × Unit → Option (Int × Unit)) (x3 : List (D62) × Int × Int × Unit) : Option (Int × Unit) :=
 (cond (decide (x3.2.2.1 < (((List.length x3.1) : Nat) : Int)))
 (gd (decide ((0 : Int) ≤ x3.2.2.1))
 (Option.bind x3.1[(Int.toNat x3.2.2.1)]? fun y6 =>
 (Option.bind (F24 y6 x3.2.1) fun y7 =>
 (cond (decide (y7.1 < (0 : Int)))
 (er_1 ((-(1 : Int)), ()))
 (rec (x3.1, y7.1, (IntKind.wrap IntKind.i64 (x3.2.2.1 + (1 : Int))), ()))))))
 (e0_0 (x3.2.1, ())))

noncomputable def F10 (a0 : List (D62)) (a1 : Int) : Option (Int × Unit) :=
 (cond (decide ((IntKind.wrap IntKind.i64 (a1 - (((List.length a0) : Nat) : Int))) < (0 : Int)))
 (some ((-(1 : Int)), ()))
 (iter (F10_R5
 (fun y8 =>
 (some (y8.1, ())))
 (fun y9 =>
 (some (y9.1, ())))) fuel (a0, (IntKind.wrap IntKind.i64 (a1 - (((List.length a0) : Nat) : Int))), (0 : Int), ())))

noncomputable def C10 : Fun := ⟨[(.ro (.slice Y62)), (.ro (.int .i64))], [((.int .i64), .z)], fun z => F10 z.1 z.2.1⟩
noncomputable def E10 : Env := ⟨27, tyTab tys, oneTab ones, fnTab [(24, C24)], false, [], [(4, [0, 1], []), (5, [0, 1, 5], []), (6, [0, 1, 5], []), (7, [0, 1, 5], []), (10, [1], []), (100000, [1], []), (100001, [0, 1, 5], []), (99999, [4], [])], none, []⟩
noncomputable def L10 : List (LoopS (Int × Unit)) := [⟨5, ⟨[(0, (.pv (.slice Y62))), (1, (.pv (.int .i64))), (5, (.pv (.int .i64)))], []⟩, fun κ => F10_R5 (fun y => κ.exit 0 (SSh.mk' ⟨[(1, (.pv (.int .i64)))], []⟩ y)) (fun y => κ.ret (SSh.mk' ⟨[(4, (.pv (.int .i64)))], []⟩ y))⟩]
theorem L10_5 : ∀ (κ : Kont (Int × Unit)) (N : St → Option (Int × Unit)) (x : (L10[0]).sh.den), execK E10 (lpOf L10) (nthLoop (codeOf Tryz.f10) 0) { κ with normal := fun σ => N (σ.keepAt (E10).hints 5) } ((L10[0]).sh.mk' x) = (L10[0]).R κ (fun x => N ((L10[0]).sh.mk' x)) x :=
  fun κ N x => by kernel_rfl
theorem C10_ok : QuietOk Tryz.prog 10 C10 :=
  told (env := E10) (fn := Tryz.f10) (c := (codeOf Tryz.f10)) (tbl := L10) (ls := [nthLoop (codeOf Tryz.f10) 0]) (vars := Tryz.f10.results.toList) Tryz.func10 (tysC_ok tys_ok rfl rfl) (Told.fnOk (.cons C24_ok .nil) rfl) (by kernel_rfl) (by decide) rfl (by decide) rfl rfl rfl (by kernel_rfl) (.cons L10[0] (by kernel_rfl) L10_5 .nil) (by kernel_rfl)

/- 83: loop.example/g00380/laws.szChange -/
noncomputable def F83 (a0 : D95) (a1 : Int) : Option (Int × Unit) :=
 (Option.bind (F82 a0.1 a1) fun y0 =>
 (cond (decide (y0.1 < (0 : Int)))
 (some ((-(1 : Int)), ()))
 (Option.bind (F123 a0.2.1 y0.1) fun y2 =>
 (cond (decide (y2.1 < (0 : Int)))
 (some ((-(1 : Int)), ()))
 (some (y2.1, ()))))))

noncomputable def C83 : Fun := ⟨[(.ro Y95), (.ro (.int .i64))], [((.int .i64), .z)], fun z => F83 z.1 z.2.1⟩
noncomputable def E83 : Env := ⟨18, tyTab tys, oneTab ones, fnTab [(82, C82), (123, C123)], false, [], [(4, [1, 2], []), (7, [1], []), (99999, [4], [])], none, []⟩
noncomputable def L83 : List (LoopS (Int × Unit)) := []
theorem C83_ok : QuietOk Tryz.prog 83 C83 :=
  told (env := E83) (fn := Tryz.f83) (c := (codeOf Tryz.f83)) (tbl := L83) (ls := []) (vars := Tryz.f83.results.toList) Tryz.func83 (tysC_ok tys_ok rfl rfl) (Told.fnOk (.cons C82_ok (.cons C123_ok .nil)) rfl) (by kernel_rfl) (by decide) rfl (by decide) rfl rfl rfl (by kernel_rfl) .nil (by kernel_rfl)

/- 52: loop.example/g00380/laws.szChangeS -/
noncomputable def F52_R5 (e0_0 : Int × Unit → Option (Int × Unit)) (er_1 : Int × Unit → Option (Int × Unit)) (rec : List (D95) × Int × Int × Unit → Option (Int × Unit)) (x3 : List (D95) × Int × Int × Unit) : Option (Int × Unit) :=
 (cond (decide (x3.2.2.1 < (((List.length x3.1) : Nat) : Int)))
 (gd (decide ((0 : Int) ≤ x3.2.2.1))
 (Option.bind x3.1[(Int.toNat x3.2.2.1)]? fun y6 =>
 (Option.bind (F83 y6 x3.2.1) fun y7 =>
 (cond (decide (y7.1 < (0 : Int)))
 (er_1 ((-(1 : Int)), ()))
 (rec (x3.1, y7.1, (IntKind.wrap IntKind.i64 (x3.2.2.1 + (1 : Int))), ()))))))
 (e0_0 (x3.2.1, ())))

noncomputable def F52 (a0 : List (D95)) (a1 : Int) : Option (Int × Unit) :=
 (cond (decide ((IntKind.wrap IntKind.i64 (a1 - (((List.length a0) : Nat) : Int))) < (0 : Int)))
 (some ((-(1 : Int)), ()))
 (iter (F52_R5
 (fun y8 =>
 (some (y8.1, ())))
 (fun y9 =>
 (some (y9.1, ())))) fuel (a0, (IntKind.wrap IntKind.i64 (a1 - (((List.length a0) : Nat) : Int))), (0 : Int), ())))

noncomputable def C52 : Fun := ⟨[(.ro (.slice Y95)), (.ro (.int .i64))], [((.int .i64), .z)], fun z => F52 z.1 z.2.1⟩
noncomputable def E52 : Env := ⟨27, tyTab tys, oneTab ones, fnTab [(83, C83)], false, [], [(4, [0, 1], []), (5, [0, 1, 5], []), (6, [0, 1, 5], []), (7, [0, 1, 5], []), (10, [1], []), (100000, [1], []), (100001, [0, 1, 5], []), (99999, [4], [])], none, []⟩
noncomputable def L52 : List (LoopS (Int × Unit)) := [⟨5, ⟨[(0, (.pv (.slice Y95))), (1, (.pv (.int .i64))), (5, (.pv (.int .i64)))], []⟩, fun κ => F52_R5 (fun y => κ.exit 0 (SSh.mk' ⟨[(1, (.pv (.int .i64)))], []⟩ y)) (fun y => κ.ret (SSh.mk' ⟨[(4, (.pv (.int .i64)))], []⟩ y))⟩]
theorem L52_5 : ∀ (κ : Kont (Int × Unit)) (N : St → Option (Int × Unit)) (x : (L52[0]).sh.den), execK E52 (lpOf L52) (nthLoop (codeOf Tryz.f52) 0) { κ with normal := fun σ => N (σ.keepAt (E52).hints 5) } ((L52[0]).sh.mk' x) = (L52[0]).R κ (fun x => N ((L52[0]).sh.mk' x)) x :=
  fun κ N x => by kernel_rfl
theorem C52_ok : QuietOk Tryz.prog 52 C52 :=
  told (env := E52) (fn := Tryz.f52) (c := (codeOf Tryz.f52)) (tbl := L52) (ls := [nthLoop (codeOf Tryz.f52) 0]) (vars := Tryz.f52.results.toList) Tryz.func52 (tysC_ok tys_ok rfl rfl) (Told.fnOk (.cons C83_ok .nil) rfl) (by kernel_rfl) (by decide) rfl (by decide) rfl rfl rfl (by kernel_rfl) (.cons L52[0] (by kernel_rfl) L52_5 .nil) (by kernel_rfl)

/- 25: loop.example/g00380/laws.szDone -/
noncomputable def F25 (a0 : D44) (a1 : Int) : Option (Int × Unit) :=
 (Option.bind (F50 a0.2.2.1 a1) fun y0 =>
 (cond (decide (y0.1 < (0 : Int)))
 (some ((-(1 : Int)), ()))
 (Option.bind (F52 a0.2.2.2.1 y0.1) fun y2 =>
 (cond (decide (y2.1 < (0 : Int)))
 (some ((-(1 : Int)), ()))
 (some (y2.1, ()))))))

noncomputable def C25 : Fun := ⟨[(.ro Y44), (.ro (.int .i64))], [((.int .i64), .z)], fun z => F25 z.1 z.2.1⟩
noncomputable def E25 : Env := ⟨18, tyTab tys, oneTab ones, fnTab [(50, C50), (52, C52)], false, [], [(4, [1, 2], []), (7, [1], []), (99999, [4], [])], none, []⟩
noncomputable def L25 : List (LoopS (Int × Unit)) := []
theorem C25_ok : QuietOk Tryz.prog 25 C25 :=
  told (env := E25) (fn := Tryz.f25) (c := (codeOf Tryz.f25)) (tbl := L25) (ls := []) (vars := Tryz.f25.results.toList) Tryz.func25 (tysC_ok tys_ok rfl rfl) (Told.fnOk (.cons C50_ok (.cons C52_ok .nil)) rfl) (by kernel_rfl) (by decide) rfl (by decide) rfl rfl rfl (by kernel_rfl) .nil (by kernel_rfl)

/- 11: loop.example/g00380/laws.szDoneS -/
noncomputable def F11_R5 (e0_0 : Int × Unit → Option (Int × Unit)) (er_1 : Int × Unit → Option (Int × Unit)) (rec : List (D44) × Int × Int × Unit → Option (Int × Unit)) (x3 : List (D44) × Int × Int × Unit) : Option (Int × Unit) :=
 (cond (decide (x3.2.2.1 < (((List.length x3.1) : Nat) : Int)))
 (gd (decide ((0 : Int) ≤ x3.2.2.1))
 (Option.bind x3.1[(Int.toNat x3.2.2.1)]? fun y6 =>
 (Option.bind (F25 y6 x3.2.1) fun y7 =>
 (cond (decide (y7.1 < (0 : Int)))
 (er_1 ((-(1 : Int)), ()))
 (rec (x3.1, y7.1, (IntKind.wrap IntKind.i64 (x3.2.2.1 + (1 : Int))), ()))))))
 (e0_0 (x3.2.1, ())))

noncomputable def F11 (a0 : List (D44)) (a1 : Int) : Option (Int × Unit) :=
 (cond (decide ((IntKind.wrap IntKind.i64 (a1 - (((List.length a0) : Nat) : Int))) < (0 : Int)))
 (some ((-(1 : Int)), ()))
 (iter (F11_R5
 (fun y8 =>
 (some (y8.1, ())))
 (fun y9 =>
 (some (y9.1, ())))) fuel (a0, (IntKind.wrap IntKind.i64 (a1 - (((List.length a0) : Nat) : Int))), (0 : Int), ())))

noncomputable def C11 : Fun := ⟨[(.ro (.slice Y44)), (.ro (.int .i64))], [((.int .i64), .z)], fun z => F11 z.1 z.2.1⟩
noncomputable def E11 : Env := ⟨27, tyTab tys, oneTab ones, fnTab [(25, C25)], false, [], [(4, [0, 1], []), (5, [0, 1, 5], []), (6, [0, 1, 5], []), (7, [0, 1, 5], []), (10, [1], []), (100000, [1], []), (100001, [0, 1, 5], []), (99999, [4], [])], none, []⟩
noncomputable def L11 : List (LoopS (Int × Unit)) := [⟨5, ⟨[(0, (.pv (.slice Y44))), (1, (.pv (.int .i64))), (5, (.pv (.int .i64)))], []⟩, fun κ => F11_R5 (fun y => κ.exit 0 (SSh.mk' ⟨[(1, (.pv (.int .i64)))], []⟩ y)) (fun y => κ.ret (SSh.mk' ⟨[(4, (.pv (.int .i64)))], []⟩ y))⟩]
theorem L11_5 : ∀ (κ : Kont (Int × Unit)) (N : St → Option (Int × Unit)) (x : (L11[0]).sh.den), execK E11 (lpOf L11) (nthLoop (codeOf Tryz.f11) 0) { κ with normal := fun σ => N (σ.keepAt (E11).hints 5) } ((L11[0]).sh.mk' x) = (L11[0]).R κ (fun x => N ((L11[0]).sh.mk' x)) x :=
  fun κ N x => by kernel_rfl
theorem C11_ok : QuietOk Tryz.prog 11 C11 :=
  told (env := E11) (fn := Tryz.f11) (c := (codeOf Tryz.f11)) (tbl := L11) (ls := [nthLoop (codeOf Tryz.f11) 0]) (vars := Tryz.f11.results.toList) Tryz.func11 (tysC_ok tys_ok rfl rfl) (Told.fnOk (.cons C25_ok .nil) rfl) (by kernel_rfl) (by decide) rfl (by decide) rfl rfl rfl (by kernel_rfl) (.cons L11[0] (by kernel_rfl) L11_5 .nil) (by kernel_rfl)

/- 4: loop.example/g00380/laws.szStore -/
noncomputable def F4 (a0 : D25) (a1 : Int) : Option (Int × Unit) :=
 (Option.bind (F9 a0.1 a1) fun y0 =>
 (cond (decide (y0.1 < (0 : Int)))
 (some ((-(1 : Int)), ()))
 (Option.bind (F10 a0.2.1 y0.1) fun y2 =>
 (cond (decide (y2.1 < (0 : Int)))
 (some ((-(1 : Int)), ()))
 (Option.bind (F11 a0.2.2.1 y2.1) fun y4 =>
 (cond (decide (y4.1 < (0 : Int)))
 (some ((-(1 : Int)), ()))
 (some (y4.1, ()))))))))

noncomputable def C4 : Fun := ⟨[(.ro Y25), (.ro (.int .i64))], [((.int .i64), .z)], fun z => F4 z.1 z.2.1⟩
noncomputable def E4 : Env := ⟨24, tyTab tys, oneTab ones, fnTab [(9, C9), (10, C10), (11, C11)], false, [], [(4, [1, 2], []), (7, [1, 2], []), (10, [1], []), (99999, [4], [])], none, []⟩
noncomputable def L4 : List (LoopS (Int × Unit)) := []
theorem C4_ok : QuietOk Tryz.prog 4 C4 :=
  told (env := E4) (fn := Tryz.f4) (c := (codeOf Tryz.f4)) (tbl := L4) (ls := []) (vars := Tryz.f4.results.toList) Tryz.func4 (tysC_ok tys_ok rfl rfl) (Told.fnOk (.cons C9_ok (.cons C10_ok (.cons C11_ok .nil))) rfl) (by kernel_rfl) (by decide) rfl (by decide) rfl rfl rfl (by kernel_rfl) .nil (by kernel_rfl)

/- 26: loop.example/g00380/spec.l01In -/
noncomputable def F26 (a0 : Int) (a1 : Int) (a2 : Int) : Option (Bool × Unit) :=
 (cond (decide (a1 ≤ a0))
 (some ((decide (a0 ≤ a2)), ()))
 (some (false, ())))

noncomputable def C26 : Fun := ⟨[(.ro (.int .i64)), (.ro (.int .i64)), (.ro (.int .i64))], [(.bool, .z)], fun z => F26 z.1 z.2.1 z.2.2.1⟩
noncomputable def E26 : Env := ⟨15, tyTab tys, oneTab ones, fnTab [], false, [], [(99999, [6], [])], none, []⟩
noncomputable def L26 : List (LoopS (Bool × Unit)) := []
theorem C26_ok : QuietOk Tryz.prog 26 C26 :=
  told (env := E26) (fn := Tryz.f26) (c := (codeOf Tryz.f26)) (tbl := L26) (ls := []) (vars := Tryz.f26.results.toList) Tryz.func26 (tysC_ok tys_ok rfl rfl) (Told.fnOk .nil rfl) (by kernel_rfl) (by decide) rfl (by decide) rfl rfl rfl (by kernel_rfl) .nil (by kernel_rfl)

/- 189: loop.example/g00380/spec.l00Letter -/
noncomputable def F189 (a0 : Int) : Option (Bool × Unit) :=
 (cond (decide (a0 ≥ (97 : Int)))
 (cond (decide (a0 ≤ (122 : Int)))
 (some (true, ()))
 (cond (decide (a0 ≥ (65 : Int)))
 (cond (decide (a0 ≤ (90 : Int)))
 (some (true, ()))
 (some ((a0 == (95 : Int)), ())))
 (some ((a0 == (95 : Int)), ()))))
 (cond (decide (a0 ≥ (65 : Int)))
 (cond (decide (a0 ≤ (90 : Int)))
 (some (true, ()))
 (some ((a0 == (95 : Int)), ())))
 (some ((a0 == (95 : Int)), ()))))

noncomputable def C189 : Fun := ⟨[(.ro (.int .u8))], [(.bool, .z)], fun z => F189 z.1⟩
noncomputable def E189 : Env := ⟨21, tyTab tys, oneTab ones, fnTab [], false, [], [(99999, [2], [])], none, []⟩
noncomputable def L189 : List (LoopS (Bool × Unit)) := []
theorem C189_ok : QuietOk Tryz.prog 189 C189 :=
  told (env := E189) (fn := Tryz.f189) (c := (codeOf Tryz.f189)) (tbl := L189) (ls := []) (vars := Tryz.f189.results.toList) Tryz.func189 (tysC_ok tys_ok rfl rfl) (Told.fnOk .nil rfl) (by kernel_rfl) (by decide) rfl (by decide) rfl rfl rfl (by kernel_rfl) .nil (by kernel_rfl)

/- 190: loop.example/g00380/spec.l00Digit -/
noncomputable def F190 (a0 : Int) : Option (Bool × Unit) :=
 (cond (decide (a0 ≥ (48 : Int)))
 (some ((decide (a0 ≤ (57 : Int))), ()))
 (some (false, ())))

noncomputable def C190 : Fun := ⟨[(.ro (.int .u8))], [(.bool, .z)], fun z => F190 z.1⟩
noncomputable def E190 : Env := ⟨9, tyTab tys, oneTab ones, fnTab [], false, [], [(99999, [2], [])], none, []⟩
noncomputable def L190 : List (LoopS (Bool × Unit)) := []
theorem C190_ok : QuietOk Tryz.prog 190 C190 :=
  told (env := E190) (fn := Tryz.f190) (c := (codeOf Tryz.f190)) (tbl := L190) (ls := []) (vars := Tryz.f190.results.toList) Tryz.func190 (tysC_ok tys_ok rfl rfl) (Told.fnOk .nil rfl) (by kernel_rfl) (by decide) rfl (by decide) rfl rfl rfl (by kernel_rfl) .nil (by kernel_rfl)

/- 161: loop.example/g00380/spec.l00Word -/
noncomputable def F161_R4 (e0_0 : Unit → Option (Bool × Unit)) (er_1 : Bool × Unit → Option (Bool × Unit)) (rec : List UInt8 × Int × Unit → Option (Bool × Unit)) (x5 : List UInt8 × Int × Unit) : Option (Bool × Unit) :=
 (cond (decide (x5.2.1 < (((List.length x5.1) : Nat) : Int)))
 (let j12 : List UInt8 × Int × Unit → Option (Bool × Unit) := fun (y13 : List UInt8 × Int × Unit) =>
 (rec (y13.1, (IntKind.wrap IntKind.i64 (y13.2.1 + (1 : Int))), ()))
 (gd (decide ((0 : Int) ≤ x5.2.1))
 (Option.bind x5.1[(Int.toNat x5.2.1)]? fun y8 =>
 (Option.bind (F189 (((UInt8.toNat y8) : Nat) : Int)) fun y9 =>
 (cond (!y9.1)
 (gd (decide ((0 : Int) ≤ x5.2.1))
 (Option.bind x5.1[(Int.toNat x5.2.1)]? fun y10 =>
 (Option.bind (F190 (((UInt8.toNat y10) : Nat) : Int)) fun y11 =>
 (cond (!y11.1)
 (er_1 (false, ()))
 (j12 (x5.1, x5.2.1, ()))))))
 (j12 (x5.1, x5.2.1, ())))))))
 (e0_0 (())))

noncomputable def F161 (a0 : List UInt8) : Option (Bool × Unit) :=
 (cond (decide ((((List.length a0) : Nat) : Int) < (1 : Int)))
 (some (false, ()))
 (cond (decide ((((List.length a0) : Nat) : Int) > (40 : Int)))
 (some (false, ()))
 (Option.bind a0[(Int.toNat (0 : Int))]? fun y1 =>
 (Option.bind (F189 (((UInt8.toNat y1) : Nat) : Int)) fun y2 =>
 (cond (!y2.1)
 (some (false, ()))
 (iter (F161_R4
 (fun y14 =>
 (some (true, ())))
 (fun y15 =>
 (some (y15.1, ())))) fuel (a0, (1 : Int), ())))))))

noncomputable def C161 : Fun := ⟨[(.ro .str)], [(.bool, .z)], fun z => F161 z.1⟩
noncomputable def E161 : Env := ⟨36, tyTab tys, oneTab ones, fnTab [(189, C189), (190, C190)], false, [], [(3, [0], []), (4, [0, 3], []), (5, [0, 3], []), (6, [0, 3], []), (8, [], []), (100000, [], []), (100001, [0, 3], []), (99999, [2], [])], none, []⟩
noncomputable def L161 : List (LoopS (Bool × Unit)) := [⟨4, ⟨[(0, (.pv .str)), (3, (.pv (.int .i64)))], []⟩, fun κ => F161_R4 (fun y => κ.exit 0 (SSh.mk' ⟨[], []⟩ y)) (fun y => κ.ret (SSh.mk' ⟨[(2, (.pv .bool))], []⟩ y))⟩]
theorem L161_4 : ∀ (κ : Kont (Bool × Unit)) (N : St → Option (Bool × Unit)) (x : (L161[0]).sh.den), execK E161 (lpOf L161) (nthLoop (codeOf Tryz.f161) 0) { κ with normal := fun σ => N (σ.keepAt (E161).hints 4) } ((L161[0]).sh.mk' x) = (L161[0]).R κ (fun x => N ((L161[0]).sh.mk' x)) x :=
  fun κ N x => by kernel_rfl
theorem C161_ok : QuietOk Tryz.prog 161 C161 :=
  told (env := E161) (fn := Tryz.f161) (c := (codeOf Tryz.f161)) (tbl := L161) (ls := [nthLoop (codeOf Tryz.f161) 0]) (vars := Tryz.f161.results.toList) Tryz.func161 (tysC_ok tys_ok rfl rfl) (Told.fnOk (.cons C189_ok (.cons C190_ok .nil)) rfl) (by kernel_rfl) (by decide) rfl (by decide) rfl rfl rfl (by kernel_rfl) (.cons L161[0] (by kernel_rfl) L161_4 .nil) (by kernel_rfl)

/- 124: loop.example/g00380/spec.NameOK -/
noncomputable def F124 (a0 : List UInt8) : Option (Bool × Unit) :=
 (Option.bind (F161 a0) fun y0 =>
 (some (y0.1, ())))

noncomputable def C124 : Fun := ⟨[(.ro .str)], [(.bool, .z)], fun z => F124 z.1⟩
noncomputable def E124 : Env := ⟨5, tyTab tys, oneTab ones, fnTab [(161, C161)], false, [], [(99999, [2], [])], none, []⟩
noncomputable def L124 : List (LoopS (Bool × Unit)) := []
theorem C124_ok : QuietOk Tryz.prog 124 C124 :=
  told (env := E124) (fn := Tryz.f124) (c := (codeOf Tryz.f124)) (tbl := L124) (ls := []) (vars := Tryz.f124.results.toList) Tryz.func124 (tysC_ok tys_ok rfl rfl) (Told.fnOk (.cons C161_ok .nil) rfl) (by kernel_rfl) (by decide) rfl (by decide) rfl rfl rfl (by kernel_rfl) .nil (by kernel_rfl)

/- 84: loop.example/g00380/spec.l01Name -/
noncomputable def F84 (a0 : List UInt8) : Option (Bool × Unit) :=
 (Option.bind (F124 a0) fun y0 =>
 (cond y0.1
 (some ((decide ((((List.length a0) : Nat) : Int) ≤ (12 : Int))), ()))
 (some (false, ()))))

noncomputable def C84 : Fun := ⟨[(.ro .str)], [(.bool, .z)], fun z => F84 z.1⟩
noncomputable def E84 : Env := ⟨10, tyTab tys, oneTab ones, fnTab [(124, C124)], false, [], [(99999, [2], [])], none, []⟩
noncomputable def L84 : List (LoopS (Bool × Unit)) := []
theorem C84_ok : QuietOk Tryz.prog 84 C84 :=
  told (env := E84) (fn := Tryz.f84) (c := (codeOf Tryz.f84)) (tbl := L84) (ls := []) (vars := Tryz.f84.results.toList) Tryz.func84 (tysC_ok tys_ok rfl rfl) (Told.fnOk (.cons C124_ok .nil) rfl) (by kernel_rfl) (by decide) rfl (by decide) rfl rfl rfl (by kernel_rfl) .nil (by kernel_rfl)

/- 162: loop.example/g00380/spec.l00Cut -/
noncomputable def F162_R4 (e0_0 : List UInt8 × Int × List (List UInt8) × Unit → Option (List (List UInt8) × Unit)) (rec : List UInt8 × Int × Int × Int × List (List UInt8) × Unit → Option (List (List UInt8) × Unit)) (x2 : List UInt8 × Int × Int × Int × List (List UInt8) × Unit) : Option (List (List UInt8) × Unit) :=
 (cond (decide (x2.2.2.2.1 < (((List.length x2.1) : Nat) : Int)))
 (let j6 : List UInt8 × Int × Int × Int × List (List UInt8) × Unit → Option (List (List UInt8) × Unit) := fun (y7 : List UInt8 × Int × Int × Int × List (List UInt8) × Unit) =>
 (rec (y7.1, y7.2.1, y7.2.2.1, (IntKind.wrap IntKind.i64 (y7.2.2.2.1 + (1 : Int))), y7.2.2.2.2.1, ()))
 (gd (decide ((0 : Int) ≤ x2.2.2.2.1))
 (Option.bind x2.1[(Int.toNat x2.2.2.2.1)]? fun y5 =>
 (cond ((((UInt8.toNat y5) : Nat) : Int) == x2.2.1)
 (gd (decide ((0 : Int) ≤ x2.2.2.2.1))
 (gd (decide (x2.2.2.2.1 ≤ (((List.length x2.1) : Nat) : Int)))
 (gd (decide ((0 : Int) ≤ x2.2.2.1))
 (gd (decide (x2.2.2.1 ≤ (((Int.toNat x2.2.2.2.1) : Nat) : Int)))
 (gd (decide (((List.length x2.2.2.2.2.1) + (List.length [(List.drop (Int.toNat x2.2.2.1) (List.take (Int.toNat x2.2.2.2.1) x2.1))])) ≤ lim))
 (j6 (x2.1, x2.2.1, (IntKind.wrap IntKind.i64 (x2.2.2.2.1 + (1 : Int))), x2.2.2.2.1, (x2.2.2.2.2.1 ++ [(List.drop (Int.toNat x2.2.2.1) (List.take (Int.toNat x2.2.2.2.1) x2.1))]), ())))))))
 (j6 (x2.1, x2.2.1, x2.2.2.1, x2.2.2.2.1, x2.2.2.2.2.1, ()))))))
 (e0_0 (x2.1, x2.2.2.1, x2.2.2.2.2.1, ())))

noncomputable def F162 (a0 : List UInt8) (a1 : Int) : Option (List (List UInt8) × Unit) :=
 (iter (F162_R4
 (fun y8 =>
 (gd (decide ((((List.length y8.1) : Nat) : Int) ≤ (((List.length y8.1) : Nat) : Int)))
 (gd (decide ((0 : Int) ≤ y8.2.1))
 (gd (decide (y8.2.1 ≤ (((Int.toNat (((List.length y8.1) : Nat) : Int)) : Nat) : Int)))
 (gd (decide (((List.length y8.2.2.1) + (List.length [(List.drop (Int.toNat y8.2.1) (List.take (Int.toNat (((List.length y8.1) : Nat) : Int)) y8.1))])) ≤ lim))
 (some ((y8.2.2.1 ++ [(List.drop (Int.toNat y8.2.1) (List.take (Int.toNat (((List.length y8.1) : Nat) : Int)) y8.1))]), ())))))))) fuel (a0, a1, (0 : Int), (0 : Int), [], ()))

noncomputable def C162 : Fun := ⟨[(.ro .str), (.ro (.int .u8))], [((.slice .str), .z)], fun z => F162 z.1 z.2.1⟩
noncomputable def E162 : Env := ⟨35, tyTab tys, oneTab ones, fnTab [], false, [], [(4, [0, 1, 5, 6, 7], []), (5, [0, 1, 5, 6, 7], []), (6, [0, 1, 5, 6, 7], []), (9, [0, 5, 6], []), (100000, [0, 5, 6], []), (100001, [0, 1, 5, 6, 7], []), (99999, [4], [])], none, []⟩
noncomputable def L162 : List (LoopS (List (List UInt8) × Unit)) := [⟨4, ⟨[(0, (.pv .str)), (1, (.pv (.int .u8))), (5, (.ref (.slice .str) 64 [])), (6, (.pv (.int .i64))), (7, (.pv (.int .i64)))], [(64, (.data false (.slice .str) (.own .z)))]⟩, fun κ => F162_R4 (fun y => κ.exit 0 (SSh.mk' ⟨[(0, (.pv .str)), (5, (.ref (.slice .str) 64 [])), (6, (.pv (.int .i64)))], [(64, (.data false (.slice .str) (.own .z)))]⟩ y))⟩]
theorem L162_4 : ∀ (κ : Kont (List (List UInt8) × Unit)) (N : St → Option (List (List UInt8) × Unit)) (x : (L162[0]).sh.den), execK E162 (lpOf L162) (nthLoop (codeOf Tryz.f162) 0) { κ with normal := fun σ => N (σ.keepAt (E162).hints 4) } ((L162[0]).sh.mk' x) = (L162[0]).R κ (fun x => N ((L162[0]).sh.mk' x)) x :=
  fun κ N x => by kernel_rfl
theorem C162_ok : QuietOk Tryz.prog 162 C162 :=
  told (env := E162) (fn := Tryz.f162) (c := (codeOf Tryz.f162)) (tbl := L162) (ls := [nthLoop (codeOf Tryz.f162) 0]) (vars := Tryz.f162.results.toList) Tryz.func162 (tysC_ok tys_ok rfl rfl) (Told.fnOk .nil rfl) (by kernel_rfl) (by decide) rfl (by decide) rfl rfl rfl (by kernel_rfl) (.cons L162[0] (by kernel_rfl) L162_4 .nil) (by kernel_rfl)

/- 125: loop.example/g00380/spec.PathOK -/
noncomputable def F125_R7 (e0_0 : Unit → Option (Bool × Unit)) (er_1 : Bool × Unit → Option (Bool × Unit)) (rec : List (List UInt8) × Int × Unit → Option (Bool × Unit)) (x5 : List (List UInt8) × Int × Unit) : Option (Bool × Unit) :=
 (cond (decide (x5.2.1 < (((List.length x5.1) : Nat) : Int)))
 (gd (decide ((0 : Int) ≤ x5.2.1))
 (Option.bind x5.1[(Int.toNat x5.2.1)]? fun y8 =>
 (Option.bind (F84 y8) fun y9 =>
 (cond (!y9.1)
 (er_1 (false, ()))
 (rec (x5.1, (IntKind.wrap IntKind.i64 (x5.2.1 + (1 : Int))), ()))))))
 (e0_0 (())))

noncomputable def F125 (a0 : List UInt8) : Option (Bool × Unit) :=
 (cond (decide ((((List.length a0) : Nat) : Int) > (65536 : Int)))
 (some (false, ()))
 (Option.bind (F162 a0 (46 : Int)) fun y1 =>
 (cond (decide ((((List.length y1.1) : Nat) : Int) > (4 : Int)))
 (some (false, ()))
 (cond (decide ((((List.length a0) : Nat) : Int) > (50 : Int)))
 (some (false, ()))
 (iter (F125_R7
 (fun y10 =>
 (some (true, ())))
 (fun y11 =>
 (some (y11.1, ())))) fuel (y1.1, (0 : Int), ()))))))

noncomputable def C125 : Fun := ⟨[(.ro .str)], [(.bool, .z)], fun z => F125 z.1⟩
noncomputable def E125 : Env := ⟨30, tyTab tys, oneTab ones, fnTab [(84, C84), (162, C162)], false, [], [(3, [0], []), (6, [3], []), (7, [3, 4], []), (8, [3, 4], []), (9, [3, 4], []), (11, [], []), (100000, [], []), (100001, [3, 4], []), (99999, [2], [])], none, []⟩
noncomputable def L125 : List (LoopS (Bool × Unit)) := [⟨7, ⟨[(3, (.pv (.slice .str))), (4, (.pv (.int .i64)))], []⟩, fun κ => F125_R7 (fun y => κ.exit 0 (SSh.mk' ⟨[], []⟩ y)) (fun y => κ.ret (SSh.mk' ⟨[(2, (.pv .bool))], []⟩ y))⟩]
theorem L125_7 : ∀ (κ : Kont (Bool × Unit)) (N : St → Option (Bool × Unit)) (x : (L125[0]).sh.den), execK E125 (lpOf L125) (nthLoop (codeOf Tryz.f125) 0) { κ with normal := fun σ => N (σ.keepAt (E125).hints 7) } ((L125[0]).sh.mk' x) = (L125[0]).R κ (fun x => N ((L125[0]).sh.mk' x)) x :=
  fun κ N x => by kernel_rfl
theorem C125_ok : QuietOk Tryz.prog 125 C125 :=
  told (env := E125) (fn := Tryz.f125) (c := (codeOf Tryz.f125)) (tbl := L125) (ls := [nthLoop (codeOf Tryz.f125) 0]) (vars := Tryz.f125.results.toList) Tryz.func125 (tysC_ok tys_ok rfl rfl) (Told.fnOk (.cons C84_ok (.cons C162_ok .nil)) rfl) (by kernel_rfl) (by decide) rfl (by decide) rfl rfl rfl (by kernel_rfl) (.cons L125[0] (by kernel_rfl) L125_7 .nil) (by kernel_rfl)

/- 85: loop.example/g00380/spec.DefOK -/
noncomputable def F85_R4 (e0_0 : D139 × Unit → Option (Bool × Unit)) (er_1 : Bool × Unit → Option (Bool × Unit)) (rec : Int × D139 × Unit → Option (Bool × Unit)) (x5 : Int × D139 × Unit) : Option (Bool × Unit) :=
 (cond (decide (x5.1 < (((List.length x5.2.1.2.1) : Nat) : Int)))
 (gd (decide ((0 : Int) ≤ x5.1))
 (Option.bind x5.2.1.2.1[(Int.toNat x5.1)]? fun y8 =>
 (Option.bind (F125 y8.1) fun y9 =>
 (cond (!y9.1)
 (er_1 (false, ()))
 (rec ((IntKind.wrap IntKind.i64 (x5.1 + (1 : Int))), x5.2.1, ()))))))
 (e0_0 (x5.2.1, ())))

noncomputable def F85 (a0 : D139) : Option (Bool × Unit) :=
 (Option.bind (F84 a0.1) fun y1 =>
 (cond (!y1.1)
 (some (false, ()))
 (Option.bind (F26 (((List.length a0.2.1) : Nat) : Int) (1 : Int) (2 : Int)) fun y2 =>
 (cond (!y2.1)
 (some (false, ()))
 (iter (F85_R4
 (fun y10 =>
 (cond ((((List.length y10.1.2.1) : Nat) : Int) == (1 : Int))
 (some (true, ()))
 (Option.bind y10.1.2.1[(Int.toNat (0 : Int))]? fun y12 =>
 (Option.bind y10.1.2.1[(Int.toNat (1 : Int))]? fun y13 =>
 (some ((!(y12.1 == y13.1)), ()))))))
 (fun y11 =>
 (some (y11.1, ())))) fuel ((0 : Int), a0, ()))))))

noncomputable def C85 : Fun := ⟨[(.ro Y139)], [(.bool, .z)], fun z => F85 z.1⟩
noncomputable def E85 : Env := ⟨47, tyTab tys, oneTab ones, fnTab [(26, C26), (84, C84), (125, C125)], false, [], [(3, [1], []), (4, [1, 3], []), (5, [1, 3], []), (6, [1, 3], []), (8, [1], []), (100000, [1], []), (100001, [1, 3], []), (99999, [2], [])], none, []⟩
noncomputable def L85 : List (LoopS (Bool × Unit)) := [⟨4, ⟨[(1, (.ptr 8 [])), (3, (.pv (.int .i64)))], [(8, (.data true Y139 .z))]⟩, fun κ => F85_R4 (fun y => κ.exit 0 (SSh.mk' ⟨[(1, (.ptr 8 []))], [(8, (.data true Y139 .z))]⟩ y)) (fun y => κ.ret (SSh.mk' ⟨[(2, (.pv .bool))], []⟩ y))⟩]
theorem L85_4 : ∀ (κ : Kont (Bool × Unit)) (N : St → Option (Bool × Unit)) (x : (L85[0]).sh.den), execK E85 (lpOf L85) (nthLoop (codeOf Tryz.f85) 0) { κ with normal := fun σ => N (σ.keepAt (E85).hints 4) } ((L85[0]).sh.mk' x) = (L85[0]).R κ (fun x => N ((L85[0]).sh.mk' x)) x :=
  fun κ N x => by kernel_rfl
theorem C85_ok : QuietOk Tryz.prog 85 C85 :=
  told (env := E85) (fn := Tryz.f85) (c := (codeOf Tryz.f85)) (tbl := L85) (ls := [nthLoop (codeOf Tryz.f85) 0]) (vars := Tryz.f85.results.toList) Tryz.func85 (tysC_ok tys_ok rfl rfl) (Told.fnOk (.cons C26_ok (.cons C84_ok (.cons C125_ok .nil))) rfl) (by kernel_rfl) (by decide) rfl (by decide) rfl rfl rfl (by kernel_rfl) (.cons L85[0] (by kernel_rfl) L85_4 .nil) (by kernel_rfl)

/- 227: loop.example/g00380/spec.l01Of -/
noncomputable def F227_R3 (e0_0 : Int × Unit → Option (Int × Unit)) (rec : List UInt8 × Int × Int × Unit → Option (Int × Unit)) (x2 : List UInt8 × Int × Int × Unit) : Option (Int × Unit) :=
 (cond (decide (x2.2.2.1 < (((List.length x2.1) : Nat) : Int)))
 (gd (decide ((0 : Int) ≤ x2.2.2.1))
 (Option.bind x2.1[(Int.toNat x2.2.2.1)]? fun y4 =>
 (rec (x2.1, (IntKind.wrap IntKind.i64 ((IntKind.wrap IntKind.i64 (x2.2.1 * (256 : Int))) + (IntKind.wrap IntKind.i64 (((UInt8.toNat y4) : Nat) : Int)))), (IntKind.wrap IntKind.i64 (x2.2.2.1 + (1 : Int))), ()))))
 (e0_0 (x2.2.1, ())))

noncomputable def F227 (a0 : List UInt8) : Option (Int × Unit) :=
 (iter (F227_R3
 (fun y5 =>
 (some (y5.1, ())))) fuel (a0, (0 : Int), (0 : Int), ()))

noncomputable def C227 : Fun := ⟨[(.ro .str)], [((.int .i64), .z)], fun z => F227 z.1⟩
noncomputable def E227 : Env := ⟨19, tyTab tys, oneTab ones, fnTab [], false, [], [(3, [0, 3, 4], []), (5, [0, 3, 4], []), (6, [3], []), (100000, [3], []), (100001, [0, 3, 4], []), (99999, [2], [])], none, []⟩
noncomputable def L227 : List (LoopS (Int × Unit)) := [⟨3, ⟨[(0, (.pv .str)), (3, (.pv (.int .i64))), (4, (.pv (.int .i64)))], []⟩, fun κ => F227_R3 (fun y => κ.exit 0 (SSh.mk' ⟨[(3, (.pv (.int .i64)))], []⟩ y))⟩]
theorem L227_3 : ∀ (κ : Kont (Int × Unit)) (N : St → Option (Int × Unit)) (x : (L227[0]).sh.den), execK E227 (lpOf L227) (nthLoop (codeOf Tryz.f227) 0) { κ with normal := fun σ => N (σ.keepAt (E227).hints 3) } ((L227[0]).sh.mk' x) = (L227[0]).R κ (fun x => N ((L227[0]).sh.mk' x)) x :=
  fun κ N x => by kernel_rfl
theorem C227_ok : QuietOk Tryz.prog 227 C227 :=
  told (env := E227) (fn := Tryz.f227) (c := (codeOf Tryz.f227)) (tbl := L227) (ls := [nthLoop (codeOf Tryz.f227) 0]) (vars := Tryz.f227.results.toList) Tryz.func227 (tysC_ok tys_ok rfl rfl) (Told.fnOk .nil rfl) (by kernel_rfl) (by decide) rfl (by decide) rfl rfl rfl (by kernel_rfl) (.cons L227[0] (by kernel_rfl) L227_3 .nil) (by kernel_rfl)

/- 214: loop.example/g00380/spec.l01Next -/
noncomputable def F214 (a0 : List UInt8) : Option (D78 × List UInt8 × Bool × Unit) :=
 (cond ((((List.length a0) : Nat) : Int) == (0 : Int))
 (some (((0 : Int), ((0 : Int), ([], ()))), ([], (false, ()))))
 (Option.bind a0[(Int.toNat (0 : Int))]? fun y1 =>
 (let j13 : List UInt8 × Int × D78 × D78 × Unit → Option (D78 × List UInt8 × Bool × Unit) := fun (y14 : List UInt8 × Int × D78 × D78 × Unit) =>
 (cond (decide ((((List.length y14.1) : Nat) : Int) < (IntKind.wrap IntKind.i64 ((1 : Int) + y14.2.1))))
 (some (((0 : Int), ((0 : Int), ([], ()))), ([], (false, ()))))
 (let j21 : List UInt8 × Int × D78 × D78 × Unit → Option (D78 × List UInt8 × Bool × Unit) := fun (y22 : List UInt8 × Int × D78 × D78 × Unit) =>
 (gd (decide ((((List.length y22.1) : Nat) : Int) ≤ (((List.length y22.1) : Nat) : Int)))
 (gd (decide ((0 : Int) ≤ (IntKind.wrap IntKind.i64 ((1 : Int) + y22.2.1))))
 (gd (decide ((IntKind.wrap IntKind.i64 ((1 : Int) + y22.2.1)) ≤ (((Int.toNat (((List.length y22.1) : Nat) : Int)) : Nat) : Int)))
 (some (y22.2.2.2.1, ((List.drop (Int.toNat (IntKind.wrap IntKind.i64 ((1 : Int) + y22.2.1))) (List.take (Int.toNat (((List.length y22.1) : Nat) : Int)) y22.1)), (true, ())))))))
 (cond (y14.2.1 == (1 : Int))
 (Option.bind y14.1[(Int.toNat (1 : Int))]? fun y17 =>
 (j21 (y14.1, y14.2.1, y14.2.2.1, (y14.2.2.2.1.1, ((IntKind.wrap IntKind.i64 (((UInt8.toNat y17) : Nat) : Int)), y14.2.2.2.1.2.2)), ())))
 (Option.bind y14.1[(Int.toNat (1 : Int))]? fun y19 =>
 (cond (decide ((((UInt8.toNat y19) : Nat) : Int) > (127 : Int)))
 (some (((0 : Int), ((0 : Int), ([], ()))), ([], (false, ()))))
 (gd (decide ((9 : Int) ≤ (((List.length y14.1) : Nat) : Int)))
 (Option.bind (F227 (List.drop (Int.toNat (1 : Int)) (List.take (Int.toNat (9 : Int)) y14.1))) fun y20 =>
 (j21 (y14.1, y14.2.1, y14.2.2.1, (y14.2.2.2.1.1, ((IntKind.wrap IntKind.i64 (y20.1 - (4611686018427387904 : Int))), y14.2.2.2.1.2.2)), ())))))))))
 (cond ((IntKind.wrap IntKind.i64 (((UInt8.toNat y1) : Nat) : Int)) == (0 : Int))
 (gd (decide ((((List.length a0) : Nat) : Int) ≤ (((List.length a0) : Nat) : Int)))
 (gd (decide ((1 : Int) ≤ (((Int.toNat (((List.length a0) : Nat) : Int)) : Nat) : Int)))
 (some (((IntKind.wrap IntKind.i64 (((UInt8.toNat y1) : Nat) : Int)), ((0 : Int), ([], ()))), ((List.drop (Int.toNat (1 : Int)) (List.take (Int.toNat (((List.length a0) : Nat) : Int)) a0)), (true, ()))))))
 (cond ((IntKind.wrap IntKind.i64 (((UInt8.toNat y1) : Nat) : Int)) == (1 : Int))
 (j13 (a0, (1 : Int), ((0 : Int), ((0 : Int), ([], ()))), ((IntKind.wrap IntKind.i64 (((UInt8.toNat y1) : Nat) : Int)), ((0 : Int), ([], ()))), ()))
 (cond ((IntKind.wrap IntKind.i64 (((UInt8.toNat y1) : Nat) : Int)) == (2 : Int))
 (j13 (a0, (8 : Int), ((0 : Int), ((0 : Int), ([], ()))), ((IntKind.wrap IntKind.i64 (((UInt8.toNat y1) : Nat) : Int)), ((0 : Int), ([], ()))), ()))
 (cond ((IntKind.wrap IntKind.i64 (((UInt8.toNat y1) : Nat) : Int)) == (3 : Int))
 (cond ((IntKind.wrap IntKind.i64 (((UInt8.toNat y1) : Nat) : Int)) == (3 : Int))
 (cond (decide ((((List.length a0) : Nat) : Int) < (3 : Int)))
 (some (((0 : Int), ((0 : Int), ([], ()))), ([], (false, ()))))
 (gd (decide ((3 : Int) ≤ (((List.length a0) : Nat) : Int)))
 (Option.bind (F227 (List.drop (Int.toNat (1 : Int)) (List.take (Int.toNat (3 : Int)) a0))) fun y5 =>
 (cond (decide ((((List.length a0) : Nat) : Int) < (IntKind.wrap IntKind.i64 ((3 : Int) + y5.1))))
 (some (((0 : Int), ((0 : Int), ([], ()))), ([], (false, ()))))
 (gd (decide ((0 : Int) ≤ (IntKind.wrap IntKind.i64 ((3 : Int) + y5.1))))
 (gd (decide ((IntKind.wrap IntKind.i64 ((3 : Int) + y5.1)) ≤ (((List.length a0) : Nat) : Int)))
 (gd (decide ((3 : Int) ≤ (((Int.toNat (IntKind.wrap IntKind.i64 ((3 : Int) + y5.1))) : Nat) : Int)))
 (gd (decide ((((List.length a0) : Nat) : Int) ≤ (((List.length a0) : Nat) : Int)))
 (gd (decide ((0 : Int) ≤ (IntKind.wrap IntKind.i64 ((3 : Int) + y5.1))))
 (gd (decide ((IntKind.wrap IntKind.i64 ((3 : Int) + y5.1)) ≤ (((Int.toNat (((List.length a0) : Nat) : Int)) : Nat) : Int)))
 (some (((IntKind.wrap IntKind.i64 (((UInt8.toNat y1) : Nat) : Int)), ((0 : Int), ((List.drop (Int.toNat (3 : Int)) (List.take (Int.toNat (IntKind.wrap IntKind.i64 ((3 : Int) + y5.1))) a0)), ()))), ((List.drop (Int.toNat (IntKind.wrap IntKind.i64 ((3 : Int) + y5.1))) (List.take (Int.toNat (((List.length a0) : Nat) : Int)) a0)), (true, ()))))))))))))))
 (some (((0 : Int), ((0 : Int), ([], ()))), ([], (false, ())))))
 (cond ((IntKind.wrap IntKind.i64 (((UInt8.toNat y1) : Nat) : Int)) == (4 : Int))
 (cond ((IntKind.wrap IntKind.i64 (((UInt8.toNat y1) : Nat) : Int)) == (4 : Int))
 (cond (decide ((((List.length a0) : Nat) : Int) < (3 : Int)))
 (some (((0 : Int), ((0 : Int), ([], ()))), ([], (false, ()))))
 (gd (decide ((3 : Int) ≤ (((List.length a0) : Nat) : Int)))
 (Option.bind (F227 (List.drop (Int.toNat (1 : Int)) (List.take (Int.toNat (3 : Int)) a0))) fun y8 =>
 (cond (decide ((((List.length a0) : Nat) : Int) < (IntKind.wrap IntKind.i64 ((3 : Int) + y8.1))))
 (some (((0 : Int), ((0 : Int), ([], ()))), ([], (false, ()))))
 (gd (decide ((0 : Int) ≤ (IntKind.wrap IntKind.i64 ((3 : Int) + y8.1))))
 (gd (decide ((IntKind.wrap IntKind.i64 ((3 : Int) + y8.1)) ≤ (((List.length a0) : Nat) : Int)))
 (gd (decide ((3 : Int) ≤ (((Int.toNat (IntKind.wrap IntKind.i64 ((3 : Int) + y8.1))) : Nat) : Int)))
 (gd (decide ((((List.length a0) : Nat) : Int) ≤ (((List.length a0) : Nat) : Int)))
 (gd (decide ((0 : Int) ≤ (IntKind.wrap IntKind.i64 ((3 : Int) + y8.1))))
 (gd (decide ((IntKind.wrap IntKind.i64 ((3 : Int) + y8.1)) ≤ (((Int.toNat (((List.length a0) : Nat) : Int)) : Nat) : Int)))
 (some (((IntKind.wrap IntKind.i64 (((UInt8.toNat y1) : Nat) : Int)), ((0 : Int), ((List.drop (Int.toNat (3 : Int)) (List.take (Int.toNat (IntKind.wrap IntKind.i64 ((3 : Int) + y8.1))) a0)), ()))), ((List.drop (Int.toNat (IntKind.wrap IntKind.i64 ((3 : Int) + y8.1))) (List.take (Int.toNat (((List.length a0) : Nat) : Int)) a0)), (true, ()))))))))))))))
 (some (((0 : Int), ((0 : Int), ([], ()))), ([], (false, ())))))
 (cond ((IntKind.wrap IntKind.i64 (((UInt8.toNat y1) : Nat) : Int)) == (5 : Int))
 (cond (decide ((((List.length a0) : Nat) : Int) < (3 : Int)))
 (some (((0 : Int), ((0 : Int), ([], ()))), ([], (false, ()))))
 (gd (decide ((3 : Int) ≤ (((List.length a0) : Nat) : Int)))
 (Option.bind (F227 (List.drop (Int.toNat (1 : Int)) (List.take (Int.toNat (3 : Int)) a0))) fun y11 =>
 (cond (decide ((((List.length a0) : Nat) : Int) < (IntKind.wrap IntKind.i64 ((3 : Int) + y11.1))))
 (some (((0 : Int), ((0 : Int), ([], ()))), ([], (false, ()))))
 (gd (decide ((0 : Int) ≤ (IntKind.wrap IntKind.i64 ((3 : Int) + y11.1))))
 (gd (decide ((IntKind.wrap IntKind.i64 ((3 : Int) + y11.1)) ≤ (((List.length a0) : Nat) : Int)))
 (gd (decide ((3 : Int) ≤ (((Int.toNat (IntKind.wrap IntKind.i64 ((3 : Int) + y11.1))) : Nat) : Int)))
 (gd (decide ((((List.length a0) : Nat) : Int) ≤ (((List.length a0) : Nat) : Int)))
 (gd (decide ((0 : Int) ≤ (IntKind.wrap IntKind.i64 ((3 : Int) + y11.1))))
 (gd (decide ((IntKind.wrap IntKind.i64 ((3 : Int) + y11.1)) ≤ (((Int.toNat (((List.length a0) : Nat) : Int)) : Nat) : Int)))
 (some (((IntKind.wrap IntKind.i64 (((UInt8.toNat y1) : Nat) : Int)), ((0 : Int), ((List.drop (Int.toNat (3 : Int)) (List.take (Int.toNat (IntKind.wrap IntKind.i64 ((3 : Int) + y11.1))) a0)), ()))), ((List.drop (Int.toNat (IntKind.wrap IntKind.i64 ((3 : Int) + y11.1))) (List.take (Int.toNat (((List.length a0) : Nat) : Int)) a0)), (true, ()))))))))))))))
 (some (((0 : Int), ((0 : Int), ([], ()))), ([], (false, ())))))))))))))

noncomputable def C214 : Fun := ⟨[(.ro .str)], [(Y78, .z), (.str, .z), (.bool, .z)], fun z => F214 z.1⟩
noncomputable def E214 : Env := ⟨81, tyTab tys, oneTab ones, fnTab [(227, C227)], false, [], [(3, [0, 2], []), (18, [0, 2, 5], []), (21, [0, 2, 5, 7], []), (23, [0, 2, 5, 6], []), (25, [0, 2, 5, 6], []), (29, [0, 2, 5, 6], []), (30, [0, 2, 5, 6], []), (100000, [0, 2, 5, 6], []), (99999, [2, 3, 4], [])], none, []⟩
noncomputable def L214 : List (LoopS (D78 × List UInt8 × Bool × Unit)) := []
theorem C214_ok : QuietOk Tryz.prog 214 C214 :=
  told (env := E214) (fn := Tryz.f214) (c := (codeOf Tryz.f214)) (tbl := L214) (ls := []) (vars := Tryz.f214.results.toList) Tryz.func214 (tysC_ok tys_ok rfl rfl) (Told.fnOk (.cons C227_ok .nil) rfl) (by kernel_rfl) (by decide) rfl (by decide) rfl rfl rfl (by kernel_rfl) .nil (by kernel_rfl)

/- 192: loop.example/g00380/spec.l01Fields -/
noncomputable def F192_R2 (e0_0 : List (D253) × Unit → Option (List (D253) × Bool × Unit)) (er_1 : Bool × List (D253) × Unit → Option (List (D253) × Bool × Unit)) (er_2 : Bool × List (D253) × Unit → Option (List (D253) × Bool × Unit)) (rec : List UInt8 × List (D253) × Unit → Option (List (D253) × Bool × Unit)) (x2 : List UInt8 × List (D253) × Unit) : Option (List (D253) × Bool × Unit) :=
 (cond (decide ((((List.length x2.1) : Nat) : Int) > (0 : Int)))
 (Option.bind x2.1[(Int.toNat (0 : Int))]? fun y4 =>
 (cond (decide ((((List.length x2.1) : Nat) : Int) < (IntKind.wrap IntKind.i64 ((1 : Int) + (IntKind.wrap IntKind.i64 (((UInt8.toNat y4) : Nat) : Int))))))
 (er_1 (false, [], ()))
 (gd (decide ((0 : Int) ≤ (IntKind.wrap IntKind.i64 ((1 : Int) + (IntKind.wrap IntKind.i64 (((UInt8.toNat y4) : Nat) : Int))))))
 (gd (decide ((IntKind.wrap IntKind.i64 ((1 : Int) + (IntKind.wrap IntKind.i64 (((UInt8.toNat y4) : Nat) : Int)))) ≤ (((List.length x2.1) : Nat) : Int)))
 (gd (decide ((1 : Int) ≤ (((Int.toNat (IntKind.wrap IntKind.i64 ((1 : Int) + (IntKind.wrap IntKind.i64 (((UInt8.toNat y4) : Nat) : Int))))) : Nat) : Int)))
 (gd (decide ((((List.length x2.1) : Nat) : Int) ≤ (((List.length x2.1) : Nat) : Int)))
 (gd (decide ((0 : Int) ≤ (IntKind.wrap IntKind.i64 ((1 : Int) + (IntKind.wrap IntKind.i64 (((UInt8.toNat y4) : Nat) : Int))))))
 (gd (decide ((IntKind.wrap IntKind.i64 ((1 : Int) + (IntKind.wrap IntKind.i64 (((UInt8.toNat y4) : Nat) : Int)))) ≤ (((Int.toNat (((List.length x2.1) : Nat) : Int)) : Nat) : Int)))
 (Option.bind (F214 (List.drop (Int.toNat (IntKind.wrap IntKind.i64 ((1 : Int) + (IntKind.wrap IntKind.i64 (((UInt8.toNat y4) : Nat) : Int))))) (List.take (Int.toNat (((List.length x2.1) : Nat) : Int)) x2.1))) fun y6 =>
 (cond (!y6.2.2.1)
 (er_2 (false, [], ()))
 (gd (decide (((List.length x2.2.1) + (List.length [((List.drop (Int.toNat (1 : Int)) (List.take (Int.toNat (IntKind.wrap IntKind.i64 ((1 : Int) + (IntKind.wrap IntKind.i64 (((UInt8.toNat y4) : Nat) : Int))))) x2.1)), (y6.1, ()))])) ≤ lim))
 (rec (y6.2.1, (x2.2.1 ++ [((List.drop (Int.toNat (1 : Int)) (List.take (Int.toNat (IntKind.wrap IntKind.i64 ((1 : Int) + (IntKind.wrap IntKind.i64 (((UInt8.toNat y4) : Nat) : Int))))) x2.1)), (y6.1, ()))]), ())))))))))))))
 (e0_0 (x2.2.1, ())))

noncomputable def F192 (a0 : List UInt8) : Option (List (D253) × Bool × Unit) :=
 (iter (F192_R2
 (fun y8 =>
 (some (y8.1, (true, ()))))
 (fun y9 =>
 (some (y9.2.1, (y9.1, ()))))
 (fun y10 =>
 (some (y10.2.1, (y10.1, ()))))) fuel (a0, [], ()))

noncomputable def C192 : Fun := ⟨[(.ro .str)], [((.slice Y253), .z), (.bool, .z)], fun z => F192 z.1⟩
noncomputable def E192 : Env := ⟨47, tyTab tys, oneTab ones, fnTab [(214, C214)], false, [], [(2, [0, 4], []), (3, [0, 4], []), (6, [0, 4, 5], []), (10, [4, 6, 7, 8], []), (12, [4], []), (100000, [4], []), (100001, [0, 4], []), (99999, [2, 3], [])], none, []⟩
noncomputable def L192 : List (LoopS (List (D253) × Bool × Unit)) := [⟨2, ⟨[(0, (.pv .str)), (4, (.ref (.slice Y253) 80 []))], [(80, (.data false (.slice Y253) (.own .z)))]⟩, fun κ => F192_R2 (fun y => κ.exit 0 (SSh.mk' ⟨[(4, (.ref (.slice Y253) 80 []))], [(80, (.data false (.slice Y253) (.own .z)))]⟩ y)) (fun y => κ.ret (SSh.mk' ⟨[(2, (.ref (.slice Y253) 176 [])), (3, (.pv .bool))], [(176, (.data false (.slice Y253) (.own .z)))]⟩ y)) (fun y => κ.ret (SSh.mk' ⟨[(2, (.ref (.slice Y253) 304 [])), (3, (.pv .bool))], [(304, (.data false (.slice Y253) (.own .z)))]⟩ y))⟩]
theorem L192_2 : ∀ (κ : Kont (List (D253) × Bool × Unit)) (N : St → Option (List (D253) × Bool × Unit)) (x : (L192[0]).sh.den), execK E192 (lpOf L192) (nthLoop (codeOf Tryz.f192) 0) { κ with normal := fun σ => N (σ.keepAt (E192).hints 2) } ((L192[0]).sh.mk' x) = (L192[0]).R κ (fun x => N ((L192[0]).sh.mk' x)) x :=
  fun κ N x => by kernel_rfl
theorem C192_ok : QuietOk Tryz.prog 192 C192 :=
  told (env := E192) (fn := Tryz.f192) (c := (codeOf Tryz.f192)) (tbl := L192) (ls := [nthLoop (codeOf Tryz.f192) 0]) (vars := Tryz.f192.results.toList) Tryz.func192 (tysC_ok tys_ok rfl rfl) (Told.fnOk (.cons C214_ok .nil) rfl) (by kernel_rfl) (by decide) rfl (by decide) rfl rfl rfl (by kernel_rfl) (.cons L192[0] (by kernel_rfl) L192_2 .nil) (by kernel_rfl)

/- 195: loop.example/g00380/spec.l01Items -/
noncomputable def F195_R2 (e0_0 : List (D78) × Unit → Option (List (D78) × Bool × Unit)) (er_1 : Bool × List (D78) × Unit → Option (List (D78) × Bool × Unit)) (rec : List UInt8 × List (D78) × Unit → Option (List (D78) × Bool × Unit)) (x2 : List UInt8 × List (D78) × Unit) : Option (List (D78) × Bool × Unit) :=
 (cond (decide ((((List.length x2.1) : Nat) : Int) > (0 : Int)))
 (Option.bind (F214 x2.1) fun y4 =>
 (cond (!y4.2.2.1)
 (er_1 (false, [], ()))
 (gd (decide (((List.length x2.2.1) + (List.length [y4.1])) ≤ lim))
 (rec (y4.2.1, (x2.2.1 ++ [y4.1]), ())))))
 (e0_0 (x2.2.1, ())))

noncomputable def F195 (a0 : List UInt8) : Option (List (D78) × Bool × Unit) :=
 (iter (F195_R2
 (fun y6 =>
 (some (y6.1, (true, ()))))
 (fun y7 =>
 (some (y7.2.1, (y7.1, ()))))) fuel (a0, [], ()))

noncomputable def C195 : Fun := ⟨[(.ro .str)], [((.slice Y78), .z), (.bool, .z)], fun z => F195 z.1⟩
noncomputable def E195 : Env := ⟨27, tyTab tys, oneTab ones, fnTab [(214, C214)], false, [], [(2, [0, 4], []), (3, [0, 4], []), (6, [4, 5, 6], []), (8, [4], []), (100000, [4], []), (100001, [0, 4], []), (99999, [2, 3], [])], none, []⟩
noncomputable def L195 : List (LoopS (List (D78) × Bool × Unit)) := [⟨2, ⟨[(0, (.pv .str)), (4, (.ref (.slice Y78) 64 []))], [(64, (.data false (.slice Y78) (.own .z)))]⟩, fun κ => F195_R2 (fun y => κ.exit 0 (SSh.mk' ⟨[(4, (.ref (.slice Y78) 64 []))], [(64, (.data false (.slice Y78) (.own .z)))]⟩ y)) (fun y => κ.ret (SSh.mk' ⟨[(2, (.ref (.slice Y78) 160 [])), (3, (.pv .bool))], [(160, (.data false (.slice Y78) (.own .z)))]⟩ y))⟩]
theorem L195_2 : ∀ (κ : Kont (List (D78) × Bool × Unit)) (N : St → Option (List (D78) × Bool × Unit)) (x : (L195[0]).sh.den), execK E195 (lpOf L195) (nthLoop (codeOf Tryz.f195) 0) { κ with normal := fun σ => N (σ.keepAt (E195).hints 2) } ((L195[0]).sh.mk' x) = (L195[0]).R κ (fun x => N ((L195[0]).sh.mk' x)) x :=
  fun κ N x => by kernel_rfl
theorem C195_ok : QuietOk Tryz.prog 195 C195 :=
  told (env := E195) (fn := Tryz.f195) (c := (codeOf Tryz.f195)) (tbl := L195) (ls := [nthLoop (codeOf Tryz.f195) 0]) (vars := Tryz.f195.results.toList) Tryz.func195 (tysC_ok tys_ok rfl rfl) (Told.fnOk (.cons C214_ok .nil) rfl) (by kernel_rfl) (by decide) rfl (by decide) rfl rfl rfl (by kernel_rfl) (.cons L195[0] (by kernel_rfl) L195_2 .nil) (by kernel_rfl)

end Go.V
