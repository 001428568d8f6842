/- What functions of the program compute, printed by a program of ours. No condition. -/
import Derived.Test.YtajpnkedfdcggaaGreatDoorWF3
namespace Go.V
set_option maxRecDepth 100000
set_option linter.unusedVariables false

/- 37: loop.example/g00380/impl.areDone -/
noncomputable def F37_R2 (e0_0 : List (D75) × Unit → Option (Bool × Unit)) (er_1 : Bool × Unit → Option (Bool × Unit)) (rec : List (D75) × List (D75) × Int × Int × Unit → Option (Bool × Unit)) (x2 : List (D75) × List (D75) × Int × Int × Unit) : Option (Bool × Unit) :=
 (cond (decide (x2.2.2.2.1 < x2.2.2.1))
 (let j9 : List (D75) × List (D75) × Int × Int × Unit → Option (Bool × Unit) := fun (y10 : List (D75) × List (D75) × Int × Int × Unit) =>
 (rec (y10.1, y10.2.1, y10.2.2.1, (IntKind.wrap IntKind.i64 (y10.2.2.2.1 + (1 : Int))), ()))
 (gd (decide ((0 : Int) ≤ x2.2.2.2.1))
 (Option.bind x2.2.1[(Int.toNat x2.2.2.2.1)]? fun y5 =>
 (Option.bind (F61 y5) fun y6 =>
 (cond (!y6.1)
 (er_1 (false, ()))
 (cond y5.2.2.2.2.1
 (cond y5.2.2.2.2.2.1
 (er_1 (false, ()))
 (cond (decide (x2.2.2.2.1 > (0 : Int)))
 (gd (decide ((0 : Int) ≤ (IntKind.wrap IntKind.i64 (x2.2.2.2.1 - (1 : Int)))))
 (Option.bind x2.1[(Int.toNat (IntKind.wrap IntKind.i64 (x2.2.2.2.1 - (1 : Int))))]? fun y7 =>
 (cond (decide (y7.2.1 ≥ y5.2.1))
 (er_1 (false, ()))
 (j9 (x2.1, x2.2.1, x2.2.2.1, x2.2.2.2.1, ())))))
 (j9 (x2.1, x2.2.1, x2.2.2.1, x2.2.2.2.1, ()))))
 (cond (decide (x2.2.2.2.1 > (0 : Int)))
 (gd (decide ((0 : Int) ≤ (IntKind.wrap IntKind.i64 (x2.2.2.2.1 - (1 : Int)))))
 (Option.bind x2.1[(Int.toNat (IntKind.wrap IntKind.i64 (x2.2.2.2.1 - (1 : Int))))]? fun y8 =>
 (cond (decide (y8.2.1 ≥ y5.2.1))
 (er_1 (false, ()))
 (j9 (x2.1, x2.2.1, x2.2.2.1, x2.2.2.2.1, ())))))
 (j9 (x2.1, x2.2.1, x2.2.2.1, x2.2.2.2.1, ())))))))))
 (e0_0 (x2.1, ())))

noncomputable def F37 (a0 : List (D75)) : Option (Bool × Unit) :=
 (iter (F37_R2
 (fun y11 =>
 (some ((decide ((((List.length y11.1) : Nat) : Int) ≤ (30 : Int))), ())))
 (fun y12 =>
 (some (y12.1, ())))) fuel (a0, a0, (((List.length a0) : Nat) : Int), (0 : Int), ()))

noncomputable def C37 : Fun := ⟨[(.ro (.slice Y75))], [(.bool, .z)], fun z => F37 z.1⟩
noncomputable def E37 : Env := ⟨42, tyTab tys, oneTab ones, fnTab [(61, C61)], false, [], [(2, [0, 5, 6, 7], []), (3, [0, 5, 6, 7], []), (6, [0, 5, 6, 7], []), (7, [0], []), (100000, [0], []), (100001, [0, 5, 6, 7], []), (99999, [2], [])], none, []⟩
noncomputable def L37 : List (LoopS (Bool × Unit)) := [⟨2, ⟨[(0, (.pv (.slice Y75))), (5, (.pv (.slice Y75))), (6, (.pv (.int .i64))), (7, (.pv (.int .i64)))], []⟩, fun κ => F37_R2 (fun y => κ.exit 0 (SSh.mk' ⟨[(0, (.pv (.slice Y75)))], []⟩ y)) (fun y => κ.ret (SSh.mk' ⟨[(2, (.pv .bool))], []⟩ y))⟩]
theorem L37_2 : ∀ (κ : Kont (Bool × Unit)) (N : St → Option (Bool × Unit)) (x : (L37[0]).sh.den), execK E37 (lpOf L37) (nthLoop (codeOf Go.Proofs.Tryz.f37) 0) { κ with normal := fun σ => N (σ.keepAt (E37).hints 2) } ((L37[0]).sh.mk' x) = (L37[0]).R κ (fun x => N ((L37[0]).sh.mk' x)) x :=
  fun κ N x => by kernel_rfl
theorem C37_ok : QuietOk Go.Proofs.Tryz.prog 37 C37 :=
  told (env := E37) (fn := Go.Proofs.Tryz.f37) (c := (codeOf Go.Proofs.Tryz.f37)) (tbl := L37) (ls := [nthLoop (codeOf Go.Proofs.Tryz.f37) 0]) (vars := Go.Proofs.Tryz.f37.results.toList) Go.Proofs.Tryz.func37 (tysC_ok tys_ok rfl rfl) (Told.fnOk (.cons C61_ok .nil) rfl) (by kernel_rfl) (by decide) rfl (by decide) rfl rfl rfl (by kernel_rfl) (.cons L37[0] (by kernel_rfl) L37_2 .nil) (by kernel_rfl)

/- 135: cmp.Or[int] -/
noncomputable def F135_R3 (e0_0 : Int × Unit → Option (Int × Unit)) (er_1 : Int × Unit → Option (Int × Unit)) (rec : Int × List (Int) × Int × Int × Unit → Option (Int × Unit)) (x2 : Int × List (Int) × Int × Int × Unit) : Option (Int × Unit) :=
 (cond (decide (x2.2.2.2.1 < x2.2.2.1))
 (gd (decide ((0 : Int) ≤ x2.2.2.2.1))
 (Option.bind x2.2.1[(Int.toNat x2.2.2.2.1)]? fun y5 =>
 (cond (y5 != x2.1)
 (er_1 (y5, ()))
 (rec (x2.1, x2.2.1, x2.2.2.1, (IntKind.wrap IntKind.i64 (x2.2.2.2.1 + (1 : Int))), ())))))
 (e0_0 (x2.1, ())))

noncomputable def F135 (a0 : List (Int)) : Option (Int × Unit) :=
 (iter (F135_R3
 (fun y6 =>
 (some (y6.1, ())))
 (fun y7 =>
 (some (y7.1, ())))) fuel ((0 : Int), a0, (((List.length a0) : Nat) : Int), (0 : Int), ()))

noncomputable def C135 : Fun := ⟨[(.ro (.slice (.int .i64)))], [((.int .i64), .z)], fun z => F135 z.1⟩
noncomputable def E135 : Env := ⟨18, tyTab tys, oneTab ones, fnTab [], false, [], [(3, [3, 6, 7, 8], []), (4, [3, 6, 7, 8], []), (7, [3, 6, 7, 8], []), (8, [3], []), (100000, [3], []), (100001, [3, 6, 7, 8], []), (99999, [2], [])], none, []⟩
noncomputable def L135 : List (LoopS (Int × Unit)) := [⟨3, ⟨[(3, (.pv (.int .i64))), (6, (.pv (.slice (.int .i64)))), (7, (.pv (.int .i64))), (8, (.pv (.int .i64)))], []⟩, fun κ => F135_R3 (fun y => κ.exit 0 (SSh.mk' ⟨[(3, (.pv (.int .i64)))], []⟩ y)) (fun y => κ.ret (SSh.mk' ⟨[(2, (.pv (.int .i64)))], []⟩ y))⟩]
theorem L135_3 : ∀ (κ : Kont (Int × Unit)) (N : St → Option (Int × Unit)) (x : (L135[0]).sh.den), execK E135 (lpOf L135) (nthLoop (codeOf Go.Proofs.Tryz.f135) 0) { κ with normal := fun σ => N (σ.keepAt (E135).hints 3) } ((L135[0]).sh.mk' x) = (L135[0]).R κ (fun x => N ((L135[0]).sh.mk' x)) x :=
  fun κ N x => by kernel_rfl
theorem C135_ok : QuietOk Go.Proofs.Tryz.prog 135 C135 :=
  told (env := E135) (fn := Go.Proofs.Tryz.f135) (c := (codeOf Go.Proofs.Tryz.f135)) (tbl := L135) (ls := [nthLoop (codeOf Go.Proofs.Tryz.f135) 0]) (vars := Go.Proofs.Tryz.f135.results.toList) Go.Proofs.Tryz.func135 (tysC_ok tys_ok rfl rfl) (Told.fnOk .nil rfl) (by kernel_rfl) (by decide) rfl (by decide) rfl rfl rfl (by kernel_rfl) (.cons L135[0] (by kernel_rfl) L135_3 .nil) (by kernel_rfl)

/- 161: cmp.isNaN[int] -/
noncomputable def F161 (a0 : Int) : Option (Bool × Unit) :=
 (some ((a0 != a0), ()))

noncomputable def C161 : Fun := ⟨[(.ro (.int .i64))], [(.bool, .z)], fun z => F161 z.1⟩
noncomputable def E161 : Env := ⟨6, tyTab tys, oneTab ones, fnTab [], false, [], [(99999, [2], [])], none, []⟩
noncomputable def L161 : List (LoopS (Bool × Unit)) := []
theorem C161_ok : QuietOk Go.Proofs.Tryz.prog 161 C161 :=
  told (env := E161) (fn := Go.Proofs.Tryz.f161) (c := (codeOf Go.Proofs.Tryz.f161)) (tbl := L161) (ls := []) (vars := Go.Proofs.Tryz.f161.results.toList) Go.Proofs.Tryz.func161 (tysC_ok tys_ok rfl rfl) (Told.fnOk .nil rfl) (by kernel_rfl) (by decide) rfl (by decide) rfl rfl rfl (by kernel_rfl) .nil (by kernel_rfl)

/- 137: cmp.Compare[int] -/
noncomputable def F137 (a0 : Int) (a1 : Int) : Option (Int × Unit) :=
 (Option.bind (F161 a0) fun y0 =>
 (Option.bind (F161 a1) fun y1 =>
 (cond y0.1
 (cond y1.1
 (some ((0 : Int), ()))
 (some ((-(1 : Int)), ())))
 (cond y1.1
 (some ((1 : Int), ()))
 (cond (decide (a0 < a1))
 (some ((-(1 : Int)), ()))
 (cond (decide (a0 > a1))
 (some ((1 : Int), ()))
 (some ((0 : Int), ()))))))))

noncomputable def C137 : Fun := ⟨[(.ro (.int .i64)), (.ro (.int .i64))], [((.int .i64), .z)], fun z => F137 z.1 z.2.1⟩
noncomputable def E137 : Env := ⟨20, tyTab tys, oneTab ones, fnTab [(161, C161)], false, [], [(6, [], []), (7, [0, 1, 6], []), (9, [0, 1], []), (11, [0, 1], []), (13, [], []), (99999, [4], [])], none, []⟩
noncomputable def L137 : List (LoopS (Int × Unit)) := []
theorem C137_ok : QuietOk Go.Proofs.Tryz.prog 137 C137 :=
  told (env := E137) (fn := Go.Proofs.Tryz.f137) (c := (codeOf Go.Proofs.Tryz.f137)) (tbl := L137) (ls := []) (vars := Go.Proofs.Tryz.f137.results.toList) Go.Proofs.Tryz.func137 (tysC_ok tys_ok rfl rfl) (Told.fnOk (.cons C161_ok .nil) rfl) (by kernel_rfl) (by decide) rfl (by decide) rfl rfl rfl (by kernel_rfl) .nil (by kernel_rfl)

/- 98: loop.example/g00380/impl.compareWrites -/
noncomputable def F98 (a0 : D86) (a1 : D86) : Option (Int × Unit) :=
 (Option.bind (F136 a0.1 a1.1) fun y0 =>
 (Option.bind (F137 a0.2.1 a1.2.1) fun y1 =>
 (Option.bind (F135 [y0.1, y1.1]) fun y2 =>
 (some (y2.1, ())))))

noncomputable def C98 : Fun := ⟨[(.ro Y86), (.ro Y86)], [((.int .i64), .z)], fun z => F98 z.1 z.2.1⟩
noncomputable def E98 : Env := ⟨17, tyTab tys, oneTab ones, fnTab [(135, C135), (136, C136), (137, C137)], false, [120], [(99999, [4], [])], none, []⟩
noncomputable def L98 : List (LoopS (Int × Unit)) := []
theorem C98_ok : QuietOk Go.Proofs.Tryz.prog 98 C98 :=
  told (env := E98) (fn := Go.Proofs.Tryz.f98) (c := (codeOf Go.Proofs.Tryz.f98)) (tbl := L98) (ls := []) (vars := Go.Proofs.Tryz.f98.results.toList) Go.Proofs.Tryz.func98 (tysC_ok tys_ok rfl rfl) (Told.fnOk (.cons C135_ok (.cons C136_ok (.cons C137_ok .nil))) rfl) (by kernel_rfl) (by decide) rfl (by decide) rfl rfl rfl (by kernel_rfl) .nil (by kernel_rfl)

/- 99: loop.example/g00380/impl.isPlace -/
noncomputable def F99 (a0 : Int) (a1 : Int) : Option (Bool × Unit) :=
 (Option.bind (F38 a0 (0 : Int) (IntKind.wrap IntKind.i64 (a1 - (1 : Int)))) fun y0 =>
 (some (y0.1, ())))

noncomputable def C99 : Fun := ⟨[(.ro (.int .i64)), (.ro (.int .i64))], [(.bool, .z)], fun z => F99 z.1 z.2.1⟩
noncomputable def E99 : Env := ⟨9, tyTab tys, oneTab ones, fnTab [(38, C38)], false, [], [(99999, [4], [])], none, []⟩
noncomputable def L99 : List (LoopS (Bool × Unit)) := []
theorem C99_ok : QuietOk Go.Proofs.Tryz.prog 99 C99 :=
  told (env := E99) (fn := Go.Proofs.Tryz.f99) (c := (codeOf Go.Proofs.Tryz.f99)) (tbl := L99) (ls := []) (vars := Go.Proofs.Tryz.f99.results.toList) Go.Proofs.Tryz.func99 (tysC_ok tys_ok rfl rfl) (Told.fnOk (.cons C38_ok .nil) rfl) (by kernel_rfl) (by decide) rfl (by decide) rfl rfl rfl (by kernel_rfl) .nil (by kernel_rfl)

/- 62: loop.example/g00380/impl.TxnOK -/
noncomputable def F62_R2 (e0_0 : D71 × Unit → Option (Bool × Unit)) (er_1 : Bool × Unit → Option (Bool × Unit)) (rec : List (D86) × Int × Int × D71 × Unit → Option (Bool × Unit)) (x2 : List (D86) × Int × Int × D71 × Unit) : Option (Bool × Unit) :=
 (cond (decide (x2.2.2.1 < x2.2.1))
 (let j9 : List (D86) × Int × Int × D71 × Unit → Option (Bool × Unit) := fun (y10 : List (D86) × Int × Int × D71 × Unit) =>
 (rec (y10.1, y10.2.1, (IntKind.wrap IntKind.i64 (y10.2.2.1 + (1 : Int))), y10.2.2.2.1, ()))
 (gd (decide ((0 : Int) ≤ x2.2.2.1))
 (Option.bind x2.1[(Int.toNat x2.2.2.1)]? fun y5 =>
 (Option.bind (F97 y5) fun y6 =>
 (cond (!y6.1)
 (er_1 (false, ()))
 (cond (decide (x2.2.2.1 > (0 : Int)))
 (gd (decide ((0 : Int) ≤ (IntKind.wrap IntKind.i64 (x2.2.2.1 - (1 : Int)))))
 (Option.bind x2.2.2.2.1.2.2.2.1[(Int.toNat (IntKind.wrap IntKind.i64 (x2.2.2.1 - (1 : Int))))]? fun y7 =>
 (Option.bind (F98 y7 y5) fun y8 =>
 (cond (decide (y8.1 ≥ (0 : Int)))
 (er_1 (false, ()))
 (j9 (x2.1, x2.2.1, x2.2.2.1, x2.2.2.2.1, ()))))))
 (j9 (x2.1, x2.2.1, x2.2.2.1, x2.2.2.2.1, ()))))))))
 (e0_0 (x2.2.2.2.1, ())))

noncomputable def F62 (a0 : D71) : Option (Bool × Unit) :=
 (iter (F62_R2
 (fun y11 =>
 (Option.bind (F99 y11.1.1 (4 : Int)) fun y13 =>
 (cond y13.1
 (Option.bind (F38 y11.1.2.1 (0 : Int) (10000 : Int)) fun y14 =>
 (cond y14.1
 (cond (decide ((((List.length y11.1.2.2.1) : Nat) : Int) ≤ (20 : Int)))
 (Option.bind (F95 y11.1.2.2.1) fun y15 =>
 (some (y15.1, ())))
 (some (false, ())))
 (some (false, ()))))
 (some (false, ())))))
 (fun y12 =>
 (some (y12.1, ())))) fuel (a0.2.2.2.1, (((List.length a0.2.2.2.1) : Nat) : Int), (0 : Int), a0, ()))

noncomputable def C62 : Fun := ⟨[(.ro Y71)], [(.bool, .z)], fun z => F62 z.1⟩
noncomputable def E62 : Env := ⟨51, tyTab tys, oneTab ones, fnTab [(38, C38), (95, C95), (97, C97), (98, C98), (99, C99)], false, [], [(2, [1, 6, 7, 8], []), (3, [1, 6, 7, 8], []), (6, [1, 6, 7, 8], []), (7, [1], []), (100000, [1], []), (100001, [1, 6, 7, 8], []), (99999, [2], [])], none, []⟩
noncomputable def L62 : List (LoopS (Bool × Unit)) := [⟨2, ⟨[(1, (.ptr 8 [])), (6, (.pv (.slice Y86))), (7, (.pv (.int .i64))), (8, (.pv (.int .i64)))], [(8, (.data true Y71 .z))]⟩, fun κ => F62_R2 (fun y => κ.exit 0 (SSh.mk' ⟨[(1, (.ptr 8 []))], [(8, (.data true Y71 .z))]⟩ y)) (fun y => κ.ret (SSh.mk' ⟨[(2, (.pv .bool))], []⟩ y))⟩]
theorem L62_2 : ∀ (κ : Kont (Bool × Unit)) (N : St → Option (Bool × Unit)) (x : (L62[0]).sh.den), execK E62 (lpOf L62) (nthLoop (codeOf Go.Proofs.Tryz.f62) 0) { κ with normal := fun σ => N (σ.keepAt (E62).hints 2) } ((L62[0]).sh.mk' x) = (L62[0]).R κ (fun x => N ((L62[0]).sh.mk' x)) x :=
  fun κ N x => by kernel_rfl
theorem C62_ok : QuietOk Go.Proofs.Tryz.prog 62 C62 :=
  told (env := E62) (fn := Go.Proofs.Tryz.f62) (c := (codeOf Go.Proofs.Tryz.f62)) (tbl := L62) (ls := [nthLoop (codeOf Go.Proofs.Tryz.f62) 0]) (vars := Go.Proofs.Tryz.f62.results.toList) Go.Proofs.Tryz.func62 (tysC_ok tys_ok rfl rfl) (Told.fnOk (.cons C38_ok (.cons C95_ok (.cons C97_ok (.cons C98_ok (.cons C99_ok .nil))))) rfl) (by kernel_rfl) (by decide) rfl (by decide) rfl rfl rfl (by kernel_rfl) (.cons L62[0] (by kernel_rfl) L62_2 .nil) (by kernel_rfl)

/- 100: slices.IndexFunc[[]loop.example/g00380/impl.Write,loop.example/g00380/impl.Write] -/
noncomputable def F100_R2 (e0_0 : Unit → Option (Int × Unit)) (er_1 : Int × Unit → Option (Int × Unit)) (rec : List (D86) × (D86 → Option (Bool)) × Int × Int × Unit → Option (Int × Unit)) (x2 : List (D86) × (D86 → Option (Bool)) × Int × Int × Unit) : Option (Int × Unit) :=
 (cond (decide (x2.2.2.2.1 < x2.2.2.1))
 (gd (decide ((0 : Int) ≤ x2.2.2.2.1))
 (Option.bind x2.1[(Int.toNat x2.2.2.2.1)]? fun y5 =>
 (Option.bind (x2.2.1 y5) fun y6 =>
 (cond y6
 (er_1 (x2.2.2.2.1, ()))
 (rec (x2.1, x2.2.1, x2.2.2.1, (IntKind.wrap IntKind.i64 (x2.2.2.2.1 + (1 : Int))), ()))))))
 (e0_0 (())))

noncomputable def F100 (a0 : List (D86)) (a1 : (D86 → Option (Bool))) : Option (Int × Unit) :=
 (iter (F100_R2
 (fun y7 =>
 (some ((-(1 : Int)), ())))
 (fun y8 =>
 (some (y8.1, ())))) fuel (a0, a1, (((List.length a0) : Nat) : Int), (0 : Int), ()))

noncomputable def C100 : Fun := ⟨[(.ro (.slice Y86)), (.fn Y86 .bool)], [((.int .i64), .z)], fun z => F100 z.1 z.2.1⟩
noncomputable def E100 : Env := ⟨19, tyTab tys, oneTab ones, fnTab [], false, [], [(2, [0, 1, 7, 8], []), (3, [0, 1, 7, 8], []), (6, [0, 1, 7, 8], []), (7, [], []), (100000, [], []), (100001, [0, 1, 7, 8], []), (99999, [4], [])], none, []⟩
noncomputable def L100 : List (LoopS (Int × Unit)) := [⟨2, ⟨[(0, (.pv (.slice Y86))), (1, (.fnA Y86 .bool)), (7, (.pv (.int .i64))), (8, (.pv (.int .i64)))], []⟩, fun κ => F100_R2 (fun y => κ.exit 0 (SSh.mk' ⟨[], []⟩ y)) (fun y => κ.ret (SSh.mk' ⟨[(4, (.pv (.int .i64)))], []⟩ y))⟩]
theorem L100_2 : ∀ (κ : Kont (Int × Unit)) (N : St → Option (Int × Unit)) (x : (L100[0]).sh.den), execK E100 (lpOf L100) (nthLoop (codeOf Go.Proofs.Tryz.f100) 0) { κ with normal := fun σ => N (σ.keepAt (E100).hints 2) } ((L100[0]).sh.mk' x) = (L100[0]).R κ (fun x => N ((L100[0]).sh.mk' x)) x :=
  fun κ N x => by kernel_rfl
theorem C100_ok : QuietOk Go.Proofs.Tryz.prog 100 C100 :=
  told (env := E100) (fn := Go.Proofs.Tryz.f100) (c := (codeOf Go.Proofs.Tryz.f100)) (tbl := L100) (ls := [nthLoop (codeOf Go.Proofs.Tryz.f100) 0]) (vars := Go.Proofs.Tryz.f100.results.toList) Go.Proofs.Tryz.func100 (tysC_ok tys_ok rfl rfl) (Told.fnOk .nil rfl) (by kernel_rfl) (by decide) rfl (by decide) rfl rfl rfl (by kernel_rfl) (.cons L100[0] (by kernel_rfl) L100_2 .nil) (by kernel_rfl)

/- 63: slices.ContainsFunc[[]loop.example/g00380/impl.Write,loop.example/g00380/impl.Write] -/
noncomputable def F63 (a0 : List (D86)) (a1 : (D86 → Option (Bool))) : Option (Bool × Unit) :=
 (Option.bind (F100 a0 a1) fun y0 =>
 (some ((decide (y0.1 ≥ (0 : Int))), ())))

noncomputable def C63 : Fun := ⟨[(.ro (.slice Y86)), (.fn Y86 .bool)], [(.bool, .z)], fun z => F63 z.1 z.2.1⟩
noncomputable def E63 : Env := ⟨9, tyTab tys, oneTab ones, fnTab [(100, C100)], false, [], [(99999, [4], [])], none, []⟩
noncomputable def L63 : List (LoopS (Bool × Unit)) := []
theorem C63_ok : QuietOk Go.Proofs.Tryz.prog 63 C63 :=
  told (env := E63) (fn := Go.Proofs.Tryz.f63) (c := (codeOf Go.Proofs.Tryz.f63)) (tbl := L63) (ls := []) (vars := Go.Proofs.Tryz.f63.results.toList) Go.Proofs.Tryz.func63 (tysC_ok tys_ok rfl rfl) (Told.fnOk (.cons C100_ok .nil) rfl) (by kernel_rfl) (by decide) rfl (by decide) rfl rfl rfl (by kernel_rfl) .nil (by kernel_rfl)

/- 101: slices.IndexFunc[[]loop.example/g00380/impl.Coll,loop.example/g00380/impl.Coll] -/
noncomputable def F101_R2 (e0_0 : Unit → Option (Int × Unit)) (er_1 : Int × Unit → Option (Int × Unit)) (rec : List (D54) × (D54 → Option (Bool)) × Int × Int × Unit → Option (Int × Unit)) (x2 : List (D54) × (D54 → Option (Bool)) × Int × Int × Unit) : Option (Int × Unit) :=
 (cond (decide (x2.2.2.2.1 < x2.2.2.1))
 (gd (decide ((0 : Int) ≤ x2.2.2.2.1))
 (Option.bind x2.1[(Int.toNat x2.2.2.2.1)]? fun y5 =>
 (Option.bind (x2.2.1 y5) fun y6 =>
 (cond y6
 (er_1 (x2.2.2.2.1, ()))
 (rec (x2.1, x2.2.1, x2.2.2.1, (IntKind.wrap IntKind.i64 (x2.2.2.2.1 + (1 : Int))), ()))))))
 (e0_0 (())))

noncomputable def F101 (a0 : List (D54)) (a1 : (D54 → Option (Bool))) : Option (Int × Unit) :=
 (iter (F101_R2
 (fun y7 =>
 (some ((-(1 : Int)), ())))
 (fun y8 =>
 (some (y8.1, ())))) fuel (a0, a1, (((List.length a0) : Nat) : Int), (0 : Int), ()))

noncomputable def C101 : Fun := ⟨[(.ro (.slice Y54)), (.fn Y54 .bool)], [((.int .i64), .z)], fun z => F101 z.1 z.2.1⟩
noncomputable def E101 : Env := ⟨19, tyTab tys, oneTab ones, fnTab [], false, [], [(2, [0, 1, 7, 8], []), (3, [0, 1, 7, 8], []), (6, [0, 1, 7, 8], []), (7, [], []), (100000, [], []), (100001, [0, 1, 7, 8], []), (99999, [4], [])], none, []⟩
noncomputable def L101 : List (LoopS (Int × Unit)) := [⟨2, ⟨[(0, (.pv (.slice Y54))), (1, (.fnA Y54 .bool)), (7, (.pv (.int .i64))), (8, (.pv (.int .i64)))], []⟩, fun κ => F101_R2 (fun y => κ.exit 0 (SSh.mk' ⟨[], []⟩ y)) (fun y => κ.ret (SSh.mk' ⟨[(4, (.pv (.int .i64)))], []⟩ y))⟩]
theorem L101_2 : ∀ (κ : Kont (Int × Unit)) (N : St → Option (Int × Unit)) (x : (L101[0]).sh.den), execK E101 (lpOf L101) (nthLoop (codeOf Go.Proofs.Tryz.f101) 0) { κ with normal := fun σ => N (σ.keepAt (E101).hints 2) } ((L101[0]).sh.mk' x) = (L101[0]).R κ (fun x => N ((L101[0]).sh.mk' x)) x :=
  fun κ N x => by kernel_rfl
theorem C101_ok : QuietOk Go.Proofs.Tryz.prog 101 C101 :=
  told (env := E101) (fn := Go.Proofs.Tryz.f101) (c := (codeOf Go.Proofs.Tryz.f101)) (tbl := L101) (ls := [nthLoop (codeOf Go.Proofs.Tryz.f101) 0]) (vars := Go.Proofs.Tryz.f101.results.toList) Go.Proofs.Tryz.func101 (tysC_ok tys_ok rfl rfl) (Told.fnOk .nil rfl) (by kernel_rfl) (by decide) rfl (by decide) rfl rfl rfl (by kernel_rfl) (.cons L101[0] (by kernel_rfl) L101_2 .nil) (by kernel_rfl)

/- 102: loop.example/g00380/impl.collAt$1 -/
noncomputable def F102 (a0 : D54) (a1 : List UInt8) : Option (Bool × Unit) :=
 (some ((a0.1 == a1), ()))

noncomputable def C102 : Fun := ⟨[(.ro Y54), (.rp .str)], [(.bool, .z)], fun z => F102 z.1 z.2.1⟩
noncomputable def E102 : Env := ⟨8, tyTab tys, oneTab ones, fnTab [], false, [], [(99999, [3], [])], none, []⟩
noncomputable def L102 : List (LoopS (Bool × Unit)) := []
theorem C102_ok : QuietOk Go.Proofs.Tryz.prog 102 C102 :=
  told (env := E102) (fn := Go.Proofs.Tryz.f102) (c := (codeOf Go.Proofs.Tryz.f102)) (tbl := L102) (ls := []) (vars := Go.Proofs.Tryz.f102.results.toList) Go.Proofs.Tryz.func102 (tysC_ok tys_ok rfl rfl) (Told.fnOk .nil rfl) (by kernel_rfl) (by decide) rfl (by decide) rfl rfl rfl (by kernel_rfl) .nil (by kernel_rfl)

/- 65: loop.example/g00380/impl.collAt -/
noncomputable def F65 (a0 : List (D54)) (a1 : List UInt8) : Option (Int × Unit) :=
 (Option.bind (F101 a0 (fun (v3 : D54) => (Option.map (fun (v4 : (Bool × Unit)) => v4.1) (F102 v3 a1)))) fun y0 =>
 (some (y0.1, ())))

noncomputable def C65 : Fun := ⟨[(.ro (.slice Y54)), (.ro .str)], [((.int .i64), .z)], fun z => F65 z.1 z.2.1⟩
noncomputable def E65 : Env := ⟨8, tyTab tys, oneTab ones, fnTab [(101, C101), (102, C102)], false, [], [(99999, [4], [])], none, []⟩
noncomputable def L65 : List (LoopS (Int × Unit)) := []
theorem C65_ok : QuietOk Go.Proofs.Tryz.prog 65 C65 :=
  told (env := E65) (fn := Go.Proofs.Tryz.f65) (c := (codeOf Go.Proofs.Tryz.f65)) (tbl := L65) (ls := []) (vars := Go.Proofs.Tryz.f65.results.toList) Go.Proofs.Tryz.func65 (tysC_ok tys_ok rfl rfl) (Told.fnOk (.cons C101_ok (.cons C102_ok .nil)) rfl) (by kernel_rfl) (by decide) rfl (by decide) rfl rfl rfl (by kernel_rfl) .nil (by kernel_rfl)

/- 64: (loop.example/g00380/impl.Store).txnsOK$1 -/
noncomputable def F64 (a0 : D86) (a1 : D25) : Option (Bool × Unit) :=
 (Option.bind (F65 a1.1 a0.1) fun y0 =>
 (some ((decide (y0.1 < (0 : Int))), ())))

noncomputable def C64 : Fun := ⟨[(.ro Y86), (.rp Y25)], [(.bool, .z)], fun z => F64 z.1 z.2.1⟩
noncomputable def E64 : Env := ⟨10, tyTab tys, oneTab ones, fnTab [(65, C65)], false, [], [(99999, [3], [])], none, []⟩
noncomputable def L64 : List (LoopS (Bool × Unit)) := []
theorem C64_ok : QuietOk Go.Proofs.Tryz.prog 64 C64 :=
  told (env := E64) (fn := Go.Proofs.Tryz.f64) (c := (codeOf Go.Proofs.Tryz.f64)) (tbl := L64) (ls := []) (vars := Go.Proofs.Tryz.f64.results.toList) Go.Proofs.Tryz.func64 (tysC_ok tys_ok rfl rfl) (Told.fnOk (.cons C65_ok .nil) rfl) (by kernel_rfl) (by decide) rfl (by decide) rfl rfl rfl (by kernel_rfl) .nil (by kernel_rfl)

/- 39: (loop.example/g00380/impl.Store).txnsOK -/
noncomputable def F39_R2 (e0_0 : Unit → Option (Bool × Unit)) (er_1 : Bool × Unit → Option (Bool × Unit)) (rec : List (D71) × Int × Int × D25 × Unit → Option (Bool × Unit)) (x2 : List (D71) × Int × Int × D25 × Unit) : Option (Bool × Unit) :=
 (cond (decide (x2.2.2.1 < x2.2.1))
 (gd (decide ((0 : Int) ≤ x2.2.2.1))
 (Option.bind x2.1[(Int.toNat x2.2.2.1)]? fun y5 =>
 (let j9 : List (D71) × Int × Int × D25 × D71 × Unit → Option (Bool × Unit) := fun (y10 : List (D71) × Int × Int × D25 × D71 × Unit) =>
 (Option.bind (F63 y10.2.2.2.2.1.2.2.2.1 (fun (v11 : D86) => (Option.map (fun (v12 : (Bool × Unit)) => v12.1) (F64 v11 y10.2.2.2.1)))) fun y11 =>
 (cond y11.1
 (er_1 (false, ()))
 (rec (y10.1, y10.2.1, (IntKind.wrap IntKind.i64 (y10.2.2.1 + (1 : Int))), y10.2.2.2.1, ()))))
 (Option.bind (F62 y5) fun y7 =>
 (cond (!y7.1)
 (er_1 (false, ()))
 (cond (decide (x2.2.2.1 > (0 : Int)))
 (gd (decide ((0 : Int) ≤ (IntKind.wrap IntKind.i64 (x2.2.2.1 - (1 : Int)))))
 (Option.bind x2.2.2.2.1.2.1[(Int.toNat (IntKind.wrap IntKind.i64 (x2.2.2.1 - (1 : Int))))]? fun y8 =>
 (cond (decide (y8.1 ≥ y5.1))
 (er_1 (false, ()))
 (cond (decide (y5.2.1 > x2.2.2.2.1.2.2.2.1))
 (er_1 (false, ()))
 (j9 (x2.1, x2.2.1, x2.2.2.1, x2.2.2.2.1, y5, ()))))))
 (cond (decide (y5.2.1 > x2.2.2.2.1.2.2.2.1))
 (er_1 (false, ()))
 (j9 (x2.1, x2.2.1, x2.2.2.1, x2.2.2.2.1, y5, ())))))))))
 (e0_0 (())))

noncomputable def F39 (a0 : D25) : Option (Bool × Unit) :=
 (iter (F39_R2
 (fun y12 =>
 (some (true, ())))
 (fun y13 =>
 (some (y13.1, ())))) fuel (a0.2.1, (((List.length a0.2.1) : Nat) : Int), (0 : Int), a0, ()))

noncomputable def C39 : Fun := ⟨[(.ro Y25)], [(.bool, .z)], fun z => F39 z.1⟩
noncomputable def E39 : Env := ⟨44, tyTab tys, oneTab ones, fnTab [(62, C62), (63, C63), (64, C64)], false, [], [(2, [1, 6, 7, 8], []), (3, [1, 6, 7, 8], []), (6, [1, 4, 6, 7, 8], []), (8, [1, 6, 7, 8], []), (9, [], []), (100000, [], []), (100001, [1, 6, 7, 8], []), (99999, [2], [])], none, []⟩
noncomputable def L39 : List (LoopS (Bool × Unit)) := [⟨2, ⟨[(1, (.ptr 8 [])), (6, (.pv (.slice Y71))), (7, (.pv (.int .i64))), (8, (.pv (.int .i64)))], [(8, (.data true Y25 .z))]⟩, fun κ => F39_R2 (fun y => κ.exit 0 (SSh.mk' ⟨[], []⟩ y)) (fun y => κ.ret (SSh.mk' ⟨[(2, (.pv .bool))], []⟩ y))⟩]
theorem L39_2 : ∀ (κ : Kont (Bool × Unit)) (N : St → Option (Bool × Unit)) (x : (L39[0]).sh.den), execK E39 (lpOf L39) (nthLoop (codeOf Go.Proofs.Tryz.f39) 0) { κ with normal := fun σ => N (σ.keepAt (E39).hints 2) } ((L39[0]).sh.mk' x) = (L39[0]).R κ (fun x => N ((L39[0]).sh.mk' x)) x :=
  fun κ N x => by kernel_rfl
theorem C39_ok : QuietOk Go.Proofs.Tryz.prog 39 C39 :=
  told (env := E39) (fn := Go.Proofs.Tryz.f39) (c := (codeOf Go.Proofs.Tryz.f39)) (tbl := L39) (ls := [nthLoop (codeOf Go.Proofs.Tryz.f39) 0]) (vars := Go.Proofs.Tryz.f39.results.toList) Go.Proofs.Tryz.func39 (tysC_ok tys_ok rfl rfl) (Told.fnOk (.cons C62_ok (.cons C63_ok (.cons C64_ok .nil))) rfl) (by kernel_rfl) (by decide) rfl (by decide) rfl rfl rfl (by kernel_rfl) (.cons L39[0] (by kernel_rfl) L39_2 .nil) (by kernel_rfl)

/- 66: slices.IndexFunc[[]loop.example/g00380/impl.Done,loop.example/g00380/impl.Done] -/
noncomputable def F66_R2 (e0_0 : Unit → Option (Int × Unit)) (er_1 : Int × Unit → Option (Int × Unit)) (rec : List (D75) × (D75 → Option (Bool)) × Int × Int × Unit → Option (Int × Unit)) (x2 : List (D75) × (D75 → Option (Bool)) × Int × Int × Unit) : Option (Int × Unit) :=
 (cond (decide (x2.2.2.2.1 < x2.2.2.1))
 (gd (decide ((0 : Int) ≤ x2.2.2.2.1))
 (Option.bind x2.1[(Int.toNat x2.2.2.2.1)]? fun y5 =>
 (Option.bind (x2.2.1 y5) fun y6 =>
 (cond y6
 (er_1 (x2.2.2.2.1, ()))
 (rec (x2.1, x2.2.1, x2.2.2.1, (IntKind.wrap IntKind.i64 (x2.2.2.2.1 + (1 : Int))), ()))))))
 (e0_0 (())))

noncomputable def F66 (a0 : List (D75)) (a1 : (D75 → Option (Bool))) : Option (Int × Unit) :=
 (iter (F66_R2
 (fun y7 =>
 (some ((-(1 : Int)), ())))
 (fun y8 =>
 (some (y8.1, ())))) fuel (a0, a1, (((List.length a0) : Nat) : Int), (0 : Int), ()))

noncomputable def C66 : Fun := ⟨[(.ro (.slice Y75)), (.fn Y75 .bool)], [((.int .i64), .z)], fun z => F66 z.1 z.2.1⟩
noncomputable def E66 : Env := ⟨19, tyTab tys, oneTab ones, fnTab [], false, [], [(2, [0, 1, 7, 8], []), (3, [0, 1, 7, 8], []), (6, [0, 1, 7, 8], []), (7, [], []), (100000, [], []), (100001, [0, 1, 7, 8], []), (99999, [4], [])], none, []⟩
noncomputable def L66 : List (LoopS (Int × Unit)) := [⟨2, ⟨[(0, (.pv (.slice Y75))), (1, (.fnA Y75 .bool)), (7, (.pv (.int .i64))), (8, (.pv (.int .i64)))], []⟩, fun κ => F66_R2 (fun y => κ.exit 0 (SSh.mk' ⟨[], []⟩ y)) (fun y => κ.ret (SSh.mk' ⟨[(4, (.pv (.int .i64)))], []⟩ y))⟩]
theorem L66_2 : ∀ (κ : Kont (Int × Unit)) (N : St → Option (Int × Unit)) (x : (L66[0]).sh.den), execK E66 (lpOf L66) (nthLoop (codeOf Go.Proofs.Tryz.f66) 0) { κ with normal := fun σ => N (σ.keepAt (E66).hints 2) } ((L66[0]).sh.mk' x) = (L66[0]).R κ (fun x => N ((L66[0]).sh.mk' x)) x :=
  fun κ N x => by kernel_rfl
theorem C66_ok : QuietOk Go.Proofs.Tryz.prog 66 C66 :=
  told (env := E66) (fn := Go.Proofs.Tryz.f66) (c := (codeOf Go.Proofs.Tryz.f66)) (tbl := L66) (ls := [nthLoop (codeOf Go.Proofs.Tryz.f66) 0]) (vars := Go.Proofs.Tryz.f66.results.toList) Go.Proofs.Tryz.func66 (tysC_ok tys_ok rfl rfl) (Told.fnOk .nil rfl) (by kernel_rfl) (by decide) rfl (by decide) rfl rfl rfl (by kernel_rfl) (.cons L66[0] (by kernel_rfl) L66_2 .nil) (by kernel_rfl)

/- 40: slices.ContainsFunc[[]loop.example/g00380/impl.Done,loop.example/g00380/impl.Done] -/
noncomputable def F40 (a0 : List (D75)) (a1 : (D75 → Option (Bool))) : Option (Bool × Unit) :=
 (Option.bind (F66 a0 a1) fun y0 =>
 (some ((decide (y0.1 ≥ (0 : Int))), ())))

noncomputable def C40 : Fun := ⟨[(.ro (.slice Y75)), (.fn Y75 .bool)], [(.bool, .z)], fun z => F40 z.1 z.2.1⟩
noncomputable def E40 : Env := ⟨9, tyTab tys, oneTab ones, fnTab [(66, C66)], false, [], [(99999, [4], [])], none, []⟩
noncomputable def L40 : List (LoopS (Bool × Unit)) := []
theorem C40_ok : QuietOk Go.Proofs.Tryz.prog 40 C40 :=
  told (env := E40) (fn := Go.Proofs.Tryz.f40) (c := (codeOf Go.Proofs.Tryz.f40)) (tbl := L40) (ls := []) (vars := Go.Proofs.Tryz.f40.results.toList) Go.Proofs.Tryz.func40 (tysC_ok tys_ok rfl rfl) (Told.fnOk (.cons C66_ok .nil) rfl) (by kernel_rfl) (by decide) rfl (by decide) rfl rfl rfl (by kernel_rfl) .nil (by kernel_rfl)

/- 41: loop.example/g00380/impl.StoreOK$1 -/
noncomputable def F41 (a0 : D75) (a1 : D25) : Option (Bool × Unit) :=
 (some ((decide (a0.2.1 > a1.2.2.2.1)), ()))

noncomputable def C41 : Fun := ⟨[(.ro Y75), (.rp Y25)], [(.bool, .z)], fun z => F41 z.1 z.2.1⟩
noncomputable def E41 : Env := ⟨9, tyTab tys, oneTab ones, fnTab [], false, [], [(99999, [3], [])], none, []⟩
noncomputable def L41 : List (LoopS (Bool × Unit)) := []
theorem C41_ok : QuietOk Go.Proofs.Tryz.prog 41 C41 :=
  told (env := E41) (fn := Go.Proofs.Tryz.f41) (c := (codeOf Go.Proofs.Tryz.f41)) (tbl := L41) (ls := []) (vars := Go.Proofs.Tryz.f41.results.toList) Go.Proofs.Tryz.func41 (tysC_ok tys_ok rfl rfl) (Told.fnOk .nil rfl) (by kernel_rfl) (by decide) rfl (by decide) rfl rfl rfl (by kernel_rfl) .nil (by kernel_rfl)

/- 20: loop.example/g00380/impl.StoreOK -/
noncomputable def F20_R7 (e2_0 : List (D54) × Int × Int × D25 × Unit → Option (Bool × Unit)) (er_1 : Bool × Unit → Option (Bool × Unit)) (rec : List (D54) × Int × Int × List (D57) × Int × Int × D25 × Unit → Option (Bool × Unit)) (x12 : List (D54) × Int × Int × List (D57) × Int × Int × D25 × Unit) : Option (Bool × Unit) :=
 (cond (decide (x12.2.2.2.2.2.1 < x12.2.2.2.2.1))
 (gd (decide ((0 : Int) ≤ x12.2.2.2.2.2.1))
 (Option.bind x12.2.2.2.1[(Int.toNat x12.2.2.2.2.2.1)]? fun y15 =>
 (gd (decide ((0 : Int) ≤ (IntKind.wrap IntKind.i64 ((((List.length y15.2.1) : Nat) : Int) - (1 : Int)))))
 (Option.bind y15.2.1[(Int.toNat (IntKind.wrap IntKind.i64 ((((List.length y15.2.1) : Nat) : Int) - (1 : Int))))]? fun y16 =>
 (cond (decide (y16.1 > x12.2.2.2.2.2.2.1.2.2.2.1))
 (er_1 (false, ()))
 (rec (x12.1, x12.2.1, x12.2.2.1, x12.2.2.2.1, x12.2.2.2.2.1, (IntKind.wrap IntKind.i64 (x12.2.2.2.2.2.1 + (1 : Int))), x12.2.2.2.2.2.2.1, ())))))))
 (e2_0 (x12.1, x12.2.1, x12.2.2.1, x12.2.2.2.2.2.2.1, ())))

noncomputable def F20_R4 (e0_0 : D25 × Unit → Option (Bool × Unit)) (er_1 : Bool × Unit → Option (Bool × Unit)) (rec : List (D54) × Int × Int × D25 × Unit → Option (Bool × Unit)) (x7 : List (D54) × Int × Int × D25 × Unit) : Option (Bool × Unit) :=
 (cond (decide (x7.2.2.1 < x7.2.1))
 (gd (decide ((0 : Int) ≤ x7.2.2.1))
 (Option.bind x7.1[(Int.toNat x7.2.2.1)]? fun y10 =>
 (iter (F20_R7
 (fun y17 =>
 (rec (y17.1, y17.2.1, (IntKind.wrap IntKind.i64 (y17.2.2.1 + (1 : Int))), y17.2.2.2.1, ())))
 (fun y18 =>
 (er_1 (y18.1, ())))) fuel (x7.1, x7.2.1, x7.2.2.1, y10.2.1, (((List.length y10.2.1) : Nat) : Int), (0 : Int), x7.2.2.2.1, ()))))
 (e0_0 (x7.2.2.2.1, ())))

noncomputable def F20 (a0 : D25) : Option (Bool × Unit) :=
 (cond ((((List.length a0.1) : Nat) : Int) == (0 : Int))
 (some (false, ()))
 (Option.bind (F36 a0.1) fun y1 =>
 (cond (!y1.1)
 (some (false, ()))
 (Option.bind (F37 a0.2.2.1) fun y2 =>
 (cond (!y2.1)
 (some (false, ()))
 (Option.bind (F38 a0.2.2.2.1 (0 : Int) (10000 : Int)) fun y3 =>
 (cond (!y3.1)
 (some (false, ()))
 (Option.bind (F39 a0) fun y4 =>
 (cond (!y4.1)
 (some (false, ()))
 (iter (F20_R4
 (fun y19 =>
 (Option.bind (F40 y19.1.2.2.1 (fun (v9 : D75) => (Option.map (fun (v10 : (Bool × Unit)) => v10.1) (F41 v9 y19.1)))) fun y21 =>
 (some ((!y21.1), ()))))
 (fun y20 =>
 (some (y20.1, ())))) fuel (a0.1, (((List.length a0.1) : Nat) : Int), (0 : Int), a0, ())))))))))))

noncomputable def C20 : Fun := ⟨[(.ro Y25)], [(.bool, .z)], fun z => F20 z.1⟩
noncomputable def E20 : Env := ⟨67, tyTab tys, oneTab ones, fnTab [(36, C36), (37, C37), (38, C38), (39, C39), (40, C40), (41, C41)], false, [], [(3, [1], []), (4, [1, 35, 36, 37], []), (5, [1, 35, 36, 37], []), (7, [1, 35, 36, 37, 42, 43, 44], []), (8, [1, 35, 36, 37, 42, 43, 44], []), (11, [1, 35, 36, 37, 42, 43, 44], []), (12, [1, 35, 36, 37], []), (13, [1], []), (100000, [1], []), (100001, [1, 35, 36, 37], []), (100002, [1, 35, 36, 37], []), (100003, [1, 35, 36, 37, 42, 43, 44], []), (99999, [2], [])], none, []⟩
noncomputable def L20 : List (LoopS (Bool × Unit)) := [⟨7, ⟨[(1, (.ptr 8 [])), (35, (.pv (.slice Y54))), (36, (.pv (.int .i64))), (37, (.pv (.int .i64))), (42, (.pv (.slice Y57))), (43, (.pv (.int .i64))), (44, (.pv (.int .i64)))], [(8, (.data true Y25 .z))]⟩, fun κ => F20_R7 (fun y => κ.exit 2 (SSh.mk' ⟨[(1, (.ptr 8 [])), (35, (.pv (.slice Y54))), (36, (.pv (.int .i64))), (37, (.pv (.int .i64)))], [(8, (.data true Y25 .z))]⟩ y)) (fun y => κ.ret (SSh.mk' ⟨[(2, (.pv .bool))], []⟩ y))⟩,
  ⟨4, ⟨[(1, (.ptr 8 [])), (35, (.pv (.slice Y54))), (36, (.pv (.int .i64))), (37, (.pv (.int .i64)))], [(8, (.data true Y25 .z))]⟩, fun κ => F20_R4 (fun y => κ.exit 0 (SSh.mk' ⟨[(1, (.ptr 8 []))], [(8, (.data true Y25 .z))]⟩ y)) (fun y => κ.ret (SSh.mk' ⟨[(2, (.pv .bool))], []⟩ y))⟩]
theorem L20_7 : ∀ (κ : Kont (Bool × Unit)) (N : St → Option (Bool × Unit)) (x : (L20[0]).sh.den), execK E20 (lpOf L20) (nthLoop (codeOf Go.Proofs.Tryz.f20) 1) { κ with normal := fun σ => N (σ.keepAt (E20).hints 7) } ((L20[0]).sh.mk' x) = (L20[0]).R κ (fun x => N ((L20[0]).sh.mk' x)) x :=
  fun κ N x => by kernel_rfl
theorem L20_4 : ∀ (κ : Kont (Bool × Unit)) (N : St → Option (Bool × Unit)) (x : (L20[1]).sh.den), execK E20 (lpOf L20) (nthLoop (codeOf Go.Proofs.Tryz.f20) 0) { κ with normal := fun σ => N (σ.keepAt (E20).hints 4) } ((L20[1]).sh.mk' x) = (L20[1]).R κ (fun x => N ((L20[1]).sh.mk' x)) x :=
  fun κ N x => by kernel_rfl
theorem C20_ok : QuietOk Go.Proofs.Tryz.prog 20 C20 :=
  told (env := E20) (fn := Go.Proofs.Tryz.f20) (c := (codeOf Go.Proofs.Tryz.f20)) (tbl := L20) (ls := [nthLoop (codeOf Go.Proofs.Tryz.f20) 0, nthLoop (codeOf Go.Proofs.Tryz.f20) 1]) (vars := Go.Proofs.Tryz.f20.results.toList) Go.Proofs.Tryz.func20 (tysC_ok tys_ok rfl rfl) (Told.fnOk (.cons C36_ok (.cons C37_ok (.cons C38_ok (.cons C39_ok (.cons C40_ok (.cons C41_ok .nil)))))) rfl) (by kernel_rfl) (by decide) rfl (by decide) rfl rfl rfl (by kernel_rfl) (.cons L20[1] (by kernel_rfl) L20_4 (.cons L20[0] (by kernel_rfl) L20_7 .nil)) (by kernel_rfl)

/- 21: (loop.example/g00380/impl.Store).oldest -/
noncomputable def F21_R3 (e0_0 : Int × Unit → Option (Int × Unit)) (rec : Int × List (D71) × Int × Int × Unit → Option (Int × Unit)) (x2 : Int × List (D71) × Int × Int × Unit) : Option (Int × Unit) :=
 (cond (decide (x2.2.2.2.1 < x2.2.2.1))
 (gd (decide ((0 : Int) ≤ x2.2.2.2.1))
 (Option.bind x2.2.1[(Int.toNat x2.2.2.2.1)]? fun y4 =>
 (rec ((cond (decide (y4.2.1 < x2.1)) y4.2.1 x2.1), x2.2.1, x2.2.2.1, (IntKind.wrap IntKind.i64 (x2.2.2.2.1 + (1 : Int))), ()))))
 (e0_0 (x2.1, ())))

noncomputable def F21 (a0 : D25) : Option (Int × Unit) :=
 (iter (F21_R3
 (fun y5 =>
 (some (y5.1, ())))) fuel (a0.2.2.2.1, a0.2.1, (((List.length a0.2.1) : Nat) : Int), (0 : Int), ()))

noncomputable def C21 : Fun := ⟨[(.ro Y25)], [((.int .i64), .z)], fun z => F21 z.1⟩
noncomputable def E21 : Env := ⟨21, tyTab tys, oneTab ones, fnTab [], false, [], [(3, [3, 9, 10, 11], []), (4, [3, 9, 10, 11], []), (7, [3], []), (100000, [3], []), (100001, [3, 9, 10, 11], []), (99999, [2], [])], none, []⟩
noncomputable def L21 : List (LoopS (Int × Unit)) := [⟨3, ⟨[(3, (.pv (.int .i64))), (9, (.pv (.slice Y71))), (10, (.pv (.int .i64))), (11, (.pv (.int .i64)))], []⟩, fun κ => F21_R3 (fun y => κ.exit 0 (SSh.mk' ⟨[(3, (.pv (.int .i64)))], []⟩ y))⟩]
theorem L21_3 : ∀ (κ : Kont (Int × Unit)) (N : St → Option (Int × Unit)) (x : (L21[0]).sh.den), execK E21 (lpOf L21) (nthLoop (codeOf Go.Proofs.Tryz.f21) 0) { κ with normal := fun σ => N (σ.keepAt (E21).hints 3) } ((L21[0]).sh.mk' x) = (L21[0]).R κ (fun x => N ((L21[0]).sh.mk' x)) x :=
  fun κ N x => by kernel_rfl
theorem C21_ok : QuietOk Go.Proofs.Tryz.prog 21 C21 :=
  told (env := E21) (fn := Go.Proofs.Tryz.f21) (c := (codeOf Go.Proofs.Tryz.f21)) (tbl := L21) (ls := [nthLoop (codeOf Go.Proofs.Tryz.f21) 0]) (vars := Go.Proofs.Tryz.f21.results.toList) Go.Proofs.Tryz.func21 (tysC_ok tys_ok rfl rfl) (Told.fnOk .nil rfl) (by kernel_rfl) (by decide) rfl (by decide) rfl rfl rfl (by kernel_rfl) (.cons L21[0] (by kernel_rfl) L21_3 .nil) (by kernel_rfl)

/- 8: loop.example/g00380/impl.OldestSnap -/
noncomputable def F8 (a0 : D25) : Option (Int × Int × Unit) :=
 (Option.bind (F20 a0) fun y1 =>
 (cond (!y1.1)
 (some ((0 : Int), ((1 : Int), ())))
 (Option.bind (F21 a0) fun y2 =>
 (some (y2.1, ((0 : Int), ()))))))

noncomputable def C8 : Fun := ⟨[(.ro Y25)], [((.int .i64), .z), ((.int .i64), .z)], fun z => F8 z.1⟩
noncomputable def E8 : Env := ⟨9, tyTab tys, oneTab ones, fnTab [(20, C20), (21, C21)], false, [], [(3, [1], []), (99999, [2, 3], [])], none, []⟩
noncomputable def L8 : List (LoopS (Int × Int × Unit)) := []
theorem C8_ok : QuietOk Go.Proofs.Tryz.prog 8 C8 :=
  told (env := E8) (fn := Go.Proofs.Tryz.f8) (c := (codeOf Go.Proofs.Tryz.f8)) (tbl := L8) (ls := []) (vars := Go.Proofs.Tryz.f8.results.toList) Go.Proofs.Tryz.func8 (tysC_ok tys_ok rfl rfl) (Told.fnOk (.cons C20_ok (.cons C21_ok .nil)) rfl) (by kernel_rfl) (by decide) rfl (by decide) rfl rfl rfl (by kernel_rfl) .nil (by kernel_rfl)

/- 141: loop.example/g00380/laws.eqValue -/
noncomputable def F141 (a0 : D59) (a1 : D59) : Option (Bool × Unit) :=
 (cond (a0.1 != a1.1)
 (some (false, ()))
 (cond (a0.2.1 != a1.2.1)
 (some (false, ()))
 (cond (!(a0.2.2.1 == a1.2.2.1))
 (some (false, ()))
 (some (true, ())))))

noncomputable def C141 : Fun := ⟨[(.ro Y59), (.ro Y59)], [(.bool, .z)], fun z => F141 z.1 z.2.1⟩
noncomputable def E141 : Env := ⟨20, tyTab tys, oneTab ones, fnTab [], false, [], [(3, [2, 3], []), (5, [2, 3], []), (7, [], []), (99999, [4], [])], none, []⟩
noncomputable def L141 : List (LoopS (Bool × Unit)) := []
theorem C141_ok : QuietOk Go.Proofs.Tryz.prog 141 C141 :=
  told (env := E141) (fn := Go.Proofs.Tryz.f141) (c := (codeOf Go.Proofs.Tryz.f141)) (tbl := L141) (ls := []) (vars := Go.Proofs.Tryz.f141.results.toList) Go.Proofs.Tryz.func141 (tysC_ok tys_ok rfl rfl) (Told.fnOk .nil rfl) (by kernel_rfl) (by decide) rfl (by decide) rfl rfl rfl (by kernel_rfl) .nil (by kernel_rfl)

/- 162: loop.example/g00380/laws.eqVersion -/
noncomputable def F162 (a0 : D61) (a1 : D61) : Option (Bool × Unit) :=
 (cond (a0.1 != a1.1)
 (some (false, ()))
 (cond (!(a0.2.1 == a1.2.1))
 (some (false, ()))
 (Option.bind (F141 a0.2.2.1 a1.2.2.1) fun y3 =>
 (cond (!y3.1)
 (some (false, ()))
 (some (true, ()))))))

noncomputable def C162 : Fun := ⟨[(.ro Y61), (.ro Y61)], [(.bool, .z)], fun z => F162 z.1 z.2.1⟩
noncomputable def E162 : Env := ⟨21, tyTab tys, oneTab ones, fnTab [(141, C141)], false, [], [(3, [2, 3], []), (5, [2, 3], []), (7, [], []), (99999, [4], [])], none, []⟩
noncomputable def L162 : List (LoopS (Bool × Unit)) := []
theorem C162_ok : QuietOk Go.Proofs.Tryz.prog 162 C162 :=
  told (env := E162) (fn := Go.Proofs.Tryz.f162) (c := (codeOf Go.Proofs.Tryz.f162)) (tbl := L162) (ls := []) (vars := Go.Proofs.Tryz.f162.results.toList) Go.Proofs.Tryz.func162 (tysC_ok tys_ok rfl rfl) (Told.fnOk (.cons C141_ok .nil) rfl) (by kernel_rfl) (by decide) rfl (by decide) rfl rfl rfl (by kernel_rfl) .nil (by kernel_rfl)

/- 138: loop.example/g00380/laws.eqVersionS -/
noncomputable def F138_R4 (e0_0 : Unit → Option (Bool × Unit)) (er_1 : Bool × Unit → Option (Bool × Unit)) (rec : List (D61) × List (D61) × Int × Unit → Option (Bool × Unit)) (x3 : List (D61) × List (D61) × Int × Unit) : Option (Bool × Unit) :=
 (cond (decide (x3.2.2.1 < (((List.length x3.1) : Nat) : Int)))
 (gd (decide ((0 : Int) ≤ x3.2.2.1))
 (Option.bind x3.1[(Int.toNat x3.2.2.1)]? fun y6 =>
 (gd (decide ((0 : Int) ≤ x3.2.2.1))
 (Option.bind x3.2.1[(Int.toNat x3.2.2.1)]? fun y7 =>
 (Option.bind (F162 y6 y7) fun y8 =>
 (cond (!y8.1)
 (er_1 (false, ()))
 (rec (x3.1, x3.2.1, (IntKind.wrap IntKind.i64 (x3.2.2.1 + (1 : Int))), ()))))))))
 (e0_0 (())))

noncomputable def F138 (a0 : List (D61)) (a1 : List (D61)) : Option (Bool × Unit) :=
 (cond ((((List.length a0) : Nat) : Int) != (((List.length a1) : Nat) : Int))
 (some (false, ()))
 (iter (F138_R4
 (fun y9 =>
 (some (true, ())))
 (fun y10 =>
 (some (y10.1, ())))) fuel (a0, a1, (0 : Int), ())))

noncomputable def C138 : Fun := ⟨[(.ro (.slice Y61)), (.ro (.slice Y61))], [(.bool, .z)], fun z => F138 z.1 z.2.1⟩
noncomputable def E138 : Env := ⟨27, tyTab tys, oneTab ones, fnTab [(162, C162)], false, [], [(3, [0, 1], []), (4, [0, 1, 5], []), (5, [0, 1, 5], []), (6, [0, 1, 5], []), (8, [], []), (100000, [], []), (100001, [0, 1, 5], []), (99999, [4], [])], none, []⟩
noncomputable def L138 : List (LoopS (Bool × Unit)) := [⟨4, ⟨[(0, (.pv (.slice Y61))), (1, (.pv (.slice Y61))), (5, (.pv (.int .i64)))], []⟩, fun κ => F138_R4 (fun y => κ.exit 0 (SSh.mk' ⟨[], []⟩ y)) (fun y => κ.ret (SSh.mk' ⟨[(4, (.pv .bool))], []⟩ y))⟩]
theorem L138_4 : ∀ (κ : Kont (Bool × Unit)) (N : St → Option (Bool × Unit)) (x : (L138[0]).sh.den), execK E138 (lpOf L138) (nthLoop (codeOf Go.Proofs.Tryz.f138) 0) { κ with normal := fun σ => N (σ.keepAt (E138).hints 4) } ((L138[0]).sh.mk' x) = (L138[0]).R κ (fun x => N ((L138[0]).sh.mk' x)) x :=
  fun κ N x => by kernel_rfl
theorem C138_ok : QuietOk Go.Proofs.Tryz.prog 138 C138 :=
  told (env := E138) (fn := Go.Proofs.Tryz.f138) (c := (codeOf Go.Proofs.Tryz.f138)) (tbl := L138) (ls := [nthLoop (codeOf Go.Proofs.Tryz.f138) 0]) (vars := Go.Proofs.Tryz.f138.results.toList) Go.Proofs.Tryz.func138 (tysC_ok tys_ok rfl rfl) (Told.fnOk (.cons C162_ok .nil) rfl) (by kernel_rfl) (by decide) rfl (by decide) rfl rfl rfl (by kernel_rfl) (.cons L138[0] (by kernel_rfl) L138_4 .nil) (by kernel_rfl)

/- 103: loop.example/g00380/laws.eqChain -/
noncomputable def F103 (a0 : D57) (a1 : D57) : Option (Bool × Unit) :=
 (cond (a0.1 != a1.1)
 (some (false, ()))
 (Option.bind (F138 a0.2.1 a1.2.1) fun y2 =>
 (cond (!y2.1)
 (some (false, ()))
 (some (true, ())))))

noncomputable def C103 : Fun := ⟨[(.ro Y57), (.ro Y57)], [(.bool, .z)], fun z => F103 z.1 z.2.1⟩
noncomputable def E103 : Env := ⟨16, tyTab tys, oneTab ones, fnTab [(138, C138)], false, [], [(3, [2, 3], []), (5, [], []), (99999, [4], [])], none, []⟩
noncomputable def L103 : List (LoopS (Bool × Unit)) := []
theorem C103_ok : QuietOk Go.Proofs.Tryz.prog 103 C103 :=
  told (env := E103) (fn := Go.Proofs.Tryz.f103) (c := (codeOf Go.Proofs.Tryz.f103)) (tbl := L103) (ls := []) (vars := Go.Proofs.Tryz.f103.results.toList) Go.Proofs.Tryz.func103 (tysC_ok tys_ok rfl rfl) (Told.fnOk (.cons C138_ok .nil) rfl) (by kernel_rfl) (by decide) rfl (by decide) rfl rfl rfl (by kernel_rfl) .nil (by kernel_rfl)

/- 67: loop.example/g00380/laws.eqChainS -/
noncomputable def F67_R4 (e0_0 : Unit → Option (Bool × Unit)) (er_1 : Bool × Unit → Option (Bool × Unit)) (rec : List (D57) × List (D57) × Int × Unit → Option (Bool × Unit)) (x3 : List (D57) × List (D57) × Int × Unit) : Option (Bool × Unit) :=
 (cond (decide (x3.2.2.1 < (((List.length x3.1) : Nat) : Int)))
 (gd (decide ((0 : Int) ≤ x3.2.2.1))
 (Option.bind x3.1[(Int.toNat x3.2.2.1)]? fun y6 =>
 (gd (decide ((0 : Int) ≤ x3.2.2.1))
 (Option.bind x3.2.1[(Int.toNat x3.2.2.1)]? fun y7 =>
 (Option.bind (F103 y6 y7) fun y8 =>
 (cond (!y8.1)
 (er_1 (false, ()))
 (rec (x3.1, x3.2.1, (IntKind.wrap IntKind.i64 (x3.2.2.1 + (1 : Int))), ()))))))))
 (e0_0 (())))

noncomputable def F67 (a0 : List (D57)) (a1 : List (D57)) : Option (Bool × Unit) :=
 (cond ((((List.length a0) : Nat) : Int) != (((List.length a1) : Nat) : Int))
 (some (false, ()))
 (iter (F67_R4
 (fun y9 =>
 (some (true, ())))
 (fun y10 =>
 (some (y10.1, ())))) fuel (a0, a1, (0 : Int), ())))

noncomputable def C67 : Fun := ⟨[(.ro (.slice Y57)), (.ro (.slice Y57))], [(.bool, .z)], fun z => F67 z.1 z.2.1⟩
noncomputable def E67 : Env := ⟨27, tyTab tys, oneTab ones, fnTab [(103, C103)], false, [], [(3, [0, 1], []), (4, [0, 1, 5], []), (5, [0, 1, 5], []), (6, [0, 1, 5], []), (8, [], []), (100000, [], []), (100001, [0, 1, 5], []), (99999, [4], [])], none, []⟩
noncomputable def L67 : List (LoopS (Bool × Unit)) := [⟨4, ⟨[(0, (.pv (.slice Y57))), (1, (.pv (.slice Y57))), (5, (.pv (.int .i64)))], []⟩, fun κ => F67_R4 (fun y => κ.exit 0 (SSh.mk' ⟨[], []⟩ y)) (fun y => κ.ret (SSh.mk' ⟨[(4, (.pv .bool))], []⟩ y))⟩]
theorem L67_4 : ∀ (κ : Kont (Bool × Unit)) (N : St → Option (Bool × Unit)) (x : (L67[0]).sh.den), execK E67 (lpOf L67) (nthLoop (codeOf Go.Proofs.Tryz.f67) 0) { κ with normal := fun σ => N (σ.keepAt (E67).hints 4) } ((L67[0]).sh.mk' x) = (L67[0]).R κ (fun x => N ((L67[0]).sh.mk' x)) x :=
  fun κ N x => by kernel_rfl
theorem C67_ok : QuietOk Go.Proofs.Tryz.prog 67 C67 :=
  told (env := E67) (fn := Go.Proofs.Tryz.f67) (c := (codeOf Go.Proofs.Tryz.f67)) (tbl := L67) (ls := [nthLoop (codeOf Go.Proofs.Tryz.f67) 0]) (vars := Go.Proofs.Tryz.f67.results.toList) Go.Proofs.Tryz.func67 (tysC_ok tys_ok rfl rfl) (Told.fnOk (.cons C103_ok .nil) rfl) (by kernel_rfl) (by decide) rfl (by decide) rfl rfl rfl (by kernel_rfl) (.cons L67[0] (by kernel_rfl) L67_4 .nil) (by kernel_rfl)

/- 163: loop.example/g00380/laws.eqPart -/
noncomputable def F163 (a0 : D181) (a1 : D181) : Option (Bool × Unit) :=
 (cond (!(a0.1 == a1.1))
 (some (false, ()))
 (cond (!(a0.2.1 == a1.2.1))
 (some (false, ()))
 (some (true, ()))))

noncomputable def C163 : Fun := ⟨[(.ro Y181), (.ro Y181)], [(.bool, .z)], fun z => F163 z.1 z.2.1⟩
noncomputable def E163 : Env := ⟨15, tyTab tys, oneTab ones, fnTab [], false, [], [(3, [2, 3], []), (5, [], []), (99999, [4], [])], none, []⟩
noncomputable def L163 : List (LoopS (Bool × Unit)) := []
theorem C163_ok : QuietOk Go.Proofs.Tryz.prog 163 C163 :=
  told (env := E163) (fn := Go.Proofs.Tryz.f163) (c := (codeOf Go.Proofs.Tryz.f163)) (tbl := L163) (ls := []) (vars := Go.Proofs.Tryz.f163.results.toList) Go.Proofs.Tryz.func163 (tysC_ok tys_ok rfl rfl) (Told.fnOk .nil rfl) (by kernel_rfl) (by decide) rfl (by decide) rfl rfl rfl (by kernel_rfl) .nil (by kernel_rfl)

/- 139: loop.example/g00380/laws.eqPartS -/
noncomputable def F139_R4 (e0_0 : Unit → Option (Bool × Unit)) (er_1 : Bool × Unit → Option (Bool × Unit)) (rec : List (D181) × List (D181) × Int × Unit → Option (Bool × Unit)) (x3 : List (D181) × List (D181) × Int × Unit) : Option (Bool × Unit) :=
 (cond (decide (x3.2.2.1 < (((List.length x3.1) : Nat) : Int)))
 (gd (decide ((0 : Int) ≤ x3.2.2.1))
 (Option.bind x3.1[(Int.toNat x3.2.2.1)]? fun y6 =>
 (gd (decide ((0 : Int) ≤ x3.2.2.1))
 (Option.bind x3.2.1[(Int.toNat x3.2.2.1)]? fun y7 =>
 (Option.bind (F163 y6 y7) fun y8 =>
 (cond (!y8.1)
 (er_1 (false, ()))
 (rec (x3.1, x3.2.1, (IntKind.wrap IntKind.i64 (x3.2.2.1 + (1 : Int))), ()))))))))
 (e0_0 (())))

noncomputable def F139 (a0 : List (D181)) (a1 : List (D181)) : Option (Bool × Unit) :=
 (cond ((((List.length a0) : Nat) : Int) != (((List.length a1) : Nat) : Int))
 (some (false, ()))
 (iter (F139_R4
 (fun y9 =>
 (some (true, ())))
 (fun y10 =>
 (some (y10.1, ())))) fuel (a0, a1, (0 : Int), ())))

noncomputable def C139 : Fun := ⟨[(.ro (.slice Y181)), (.ro (.slice Y181))], [(.bool, .z)], fun z => F139 z.1 z.2.1⟩
noncomputable def E139 : Env := ⟨27, tyTab tys, oneTab ones, fnTab [(163, C163)], false, [], [(3, [0, 1], []), (4, [0, 1, 5], []), (5, [0, 1, 5], []), (6, [0, 1, 5], []), (8, [], []), (100000, [], []), (100001, [0, 1, 5], []), (99999, [4], [])], none, []⟩
noncomputable def L139 : List (LoopS (Bool × Unit)) := [⟨4, ⟨[(0, (.pv (.slice Y181))), (1, (.pv (.slice Y181))), (5, (.pv (.int .i64)))], []⟩, fun κ => F139_R4 (fun y => κ.exit 0 (SSh.mk' ⟨[], []⟩ y)) (fun y => κ.ret (SSh.mk' ⟨[(4, (.pv .bool))], []⟩ y))⟩]
theorem L139_4 : ∀ (κ : Kont (Bool × Unit)) (N : St → Option (Bool × Unit)) (x : (L139[0]).sh.den), execK E139 (lpOf L139) (nthLoop (codeOf Go.Proofs.Tryz.f139) 0) { κ with normal := fun σ => N (σ.keepAt (E139).hints 4) } ((L139[0]).sh.mk' x) = (L139[0]).R κ (fun x => N ((L139[0]).sh.mk' x)) x :=
  fun κ N x => by kernel_rfl
theorem C139_ok : QuietOk Go.Proofs.Tryz.prog 139 C139 :=
  told (env := E139) (fn := Go.Proofs.Tryz.f139) (c := (codeOf Go.Proofs.Tryz.f139)) (tbl := L139) (ls := [nthLoop (codeOf Go.Proofs.Tryz.f139) 0]) (vars := Go.Proofs.Tryz.f139.results.toList) Go.Proofs.Tryz.func139 (tysC_ok tys_ok rfl rfl) (Told.fnOk (.cons C163_ok .nil) rfl) (by kernel_rfl) (by decide) rfl (by decide) rfl rfl rfl (by kernel_rfl) (.cons L139[0] (by kernel_rfl) L139_4 .nil) (by kernel_rfl)

/- 104: loop.example/g00380/laws.eqDef -/
noncomputable def F104 (a0 : D132) (a1 : D132) : Option (Bool × Unit) :=
 (cond (!(a0.1 == a1.1))
 (some (false, ()))
 (Option.bind (F139 a0.2.1 a1.2.1) fun y2 =>
 (cond (!y2.1)
 (some (false, ()))
 (some (true, ())))))

noncomputable def C104 : Fun := ⟨[(.ro Y132), (.ro Y132)], [(.bool, .z)], fun z => F104 z.1 z.2.1⟩
noncomputable def E104 : Env := ⟨16, tyTab tys, oneTab ones, fnTab [(139, C139)], false, [], [(3, [2, 3], []), (5, [], []), (99999, [4], [])], none, []⟩
noncomputable def L104 : List (LoopS (Bool × Unit)) := []
theorem C104_ok : QuietOk Go.Proofs.Tryz.prog 104 C104 :=
  told (env := E104) (fn := Go.Proofs.Tryz.f104) (c := (codeOf Go.Proofs.Tryz.f104)) (tbl := L104) (ls := []) (vars := Go.Proofs.Tryz.f104.results.toList) Go.Proofs.Tryz.func104 (tysC_ok tys_ok rfl rfl) (Told.fnOk (.cons C139_ok .nil) rfl) (by kernel_rfl) (by decide) rfl (by decide) rfl rfl rfl (by kernel_rfl) .nil (by kernel_rfl)

/- 68: loop.example/g00380/laws.eqDefS -/
noncomputable def F68_R4 (e0_0 : Unit → Option (Bool × Unit)) (er_1 : Bool × Unit → Option (Bool × Unit)) (rec : List (D132) × List (D132) × Int × Unit → Option (Bool × Unit)) (x3 : List (D132) × List (D132) × Int × Unit) : Option (Bool × Unit) :=
 (cond (decide (x3.2.2.1 < (((List.length x3.1) : Nat) : Int)))
 (gd (decide ((0 : Int) ≤ x3.2.2.1))
 (Option.bind x3.1[(Int.toNat x3.2.2.1)]? fun y6 =>
 (gd (decide ((0 : Int) ≤ x3.2.2.1))
 (Option.bind x3.2.1[(Int.toNat x3.2.2.1)]? fun y7 =>
 (Option.bind (F104 y6 y7) fun y8 =>
 (cond (!y8.1)
 (er_1 (false, ()))
 (rec (x3.1, x3.2.1, (IntKind.wrap IntKind.i64 (x3.2.2.1 + (1 : Int))), ()))))))))
 (e0_0 (())))

noncomputable def F68 (a0 : List (D132)) (a1 : List (D132)) : Option (Bool × Unit) :=
 (cond ((((List.length a0) : Nat) : Int) != (((List.length a1) : Nat) : Int))
 (some (false, ()))
 (iter (F68_R4
 (fun y9 =>
 (some (true, ())))
 (fun y10 =>
 (some (y10.1, ())))) fuel (a0, a1, (0 : Int), ())))

noncomputable def C68 : Fun := ⟨[(.ro (.slice Y132)), (.ro (.slice Y132))], [(.bool, .z)], fun z => F68 z.1 z.2.1⟩
noncomputable def E68 : Env := ⟨27, tyTab tys, oneTab ones, fnTab [(104, C104)], false, [], [(3, [0, 1], []), (4, [0, 1, 5], []), (5, [0, 1, 5], []), (6, [0, 1, 5], []), (8, [], []), (100000, [], []), (100001, [0, 1, 5], []), (99999, [4], [])], none, []⟩
noncomputable def L68 : List (LoopS (Bool × Unit)) := [⟨4, ⟨[(0, (.pv (.slice Y132))), (1, (.pv (.slice Y132))), (5, (.pv (.int .i64)))], []⟩, fun κ => F68_R4 (fun y => κ.exit 0 (SSh.mk' ⟨[], []⟩ y)) (fun y => κ.ret (SSh.mk' ⟨[(4, (.pv .bool))], []⟩ y))⟩]
theorem L68_4 : ∀ (κ : Kont (Bool × Unit)) (N : St → Option (Bool × Unit)) (x : (L68[0]).sh.den), execK E68 (lpOf L68) (nthLoop (codeOf Go.Proofs.Tryz.f68) 0) { κ with normal := fun σ => N (σ.keepAt (E68).hints 4) } ((L68[0]).sh.mk' x) = (L68[0]).R κ (fun x => N ((L68[0]).sh.mk' x)) x :=
  fun κ N x => by kernel_rfl
theorem C68_ok : QuietOk Go.Proofs.Tryz.prog 68 C68 :=
  told (env := E68) (fn := Go.Proofs.Tryz.f68) (c := (codeOf Go.Proofs.Tryz.f68)) (tbl := L68) (ls := [nthLoop (codeOf Go.Proofs.Tryz.f68) 0]) (vars := Go.Proofs.Tryz.f68.results.toList) Go.Proofs.Tryz.func68 (tysC_ok tys_ok rfl rfl) (Told.fnOk (.cons C104_ok .nil) rfl) (by kernel_rfl) (by decide) rfl (by decide) rfl rfl rfl (by kernel_rfl) (.cons L68[0] (by kernel_rfl) L68_4 .nil) (by kernel_rfl)

/- 42: loop.example/g00380/laws.eqColl -/
noncomputable def F42 (a0 : D54) (a1 : D54) : Option (Bool × Unit) :=
 (cond (!(a0.1 == a1.1))
 (some (false, ()))
 (Option.bind (F67 a0.2.1 a1.2.1) fun y2 =>
 (cond (!y2.1)
 (some (false, ()))
 (Option.bind (F68 a0.2.2.1 a1.2.2.1) fun y4 =>
 (cond (!y4.1)
 (some (false, ()))
 (some (true, ())))))))

noncomputable def C42 : Fun := ⟨[(.ro Y54), (.ro Y54)], [(.bool, .z)], fun z => F42 z.1 z.2.1⟩
noncomputable def E42 : Env := ⟨22, tyTab tys, oneTab ones, fnTab [(67, C67), (68, C68)], false, [], [(3, [2, 3], []), (5, [2, 3], []), (7, [], []), (99999, [4], [])], none, []⟩
noncomputable def L42 : List (LoopS (Bool × Unit)) := []
theorem C42_ok : QuietOk Go.Proofs.Tryz.prog 42 C42 :=
  told (env := E42) (fn := Go.Proofs.Tryz.f42) (c := (codeOf Go.Proofs.Tryz.f42)) (tbl := L42) (ls := []) (vars := Go.Proofs.Tryz.f42.results.toList) Go.Proofs.Tryz.func42 (tysC_ok tys_ok rfl rfl) (Told.fnOk (.cons C67_ok (.cons C68_ok .nil)) rfl) (by kernel_rfl) (by decide) rfl (by decide) rfl rfl rfl (by kernel_rfl) .nil (by kernel_rfl)

/- 22: loop.example/g00380/laws.eqCollS -/
noncomputable def F22_R4 (e0_0 : Unit → Option (Bool × Unit)) (er_1 : Bool × Unit → Option (Bool × Unit)) (rec : List (D54) × List (D54) × Int × Unit → Option (Bool × Unit)) (x3 : List (D54) × List (D54) × Int × Unit) : Option (Bool × Unit) :=
 (cond (decide (x3.2.2.1 < (((List.length x3.1) : Nat) : Int)))
 (gd (decide ((0 : Int) ≤ x3.2.2.1))
 (Option.bind x3.1[(Int.toNat x3.2.2.1)]? fun y6 =>
 (gd (decide ((0 : Int) ≤ x3.2.2.1))
 (Option.bind x3.2.1[(Int.toNat x3.2.2.1)]? fun y7 =>
 (Option.bind (F42 y6 y7) fun y8 =>
 (cond (!y8.1)
 (er_1 (false, ()))
 (rec (x3.1, x3.2.1, (IntKind.wrap IntKind.i64 (x3.2.2.1 + (1 : Int))), ()))))))))
 (e0_0 (())))

noncomputable def F22 (a0 : List (D54)) (a1 : List (D54)) : Option (Bool × Unit) :=
 (cond ((((List.length a0) : Nat) : Int) != (((List.length a1) : Nat) : Int))
 (some (false, ()))
 (iter (F22_R4
 (fun y9 =>
 (some (true, ())))
 (fun y10 =>
 (some (y10.1, ())))) fuel (a0, a1, (0 : Int), ())))

noncomputable def C22 : Fun := ⟨[(.ro (.slice Y54)), (.ro (.slice Y54))], [(.bool, .z)], fun z => F22 z.1 z.2.1⟩
noncomputable def E22 : Env := ⟨27, tyTab tys, oneTab ones, fnTab [(42, C42)], false, [], [(3, [0, 1], []), (4, [0, 1, 5], []), (5, [0, 1, 5], []), (6, [0, 1, 5], []), (8, [], []), (100000, [], []), (100001, [0, 1, 5], []), (99999, [4], [])], none, []⟩
noncomputable def L22 : List (LoopS (Bool × Unit)) := [⟨4, ⟨[(0, (.pv (.slice Y54))), (1, (.pv (.slice Y54))), (5, (.pv (.int .i64)))], []⟩, fun κ => F22_R4 (fun y => κ.exit 0 (SSh.mk' ⟨[], []⟩ y)) (fun y => κ.ret (SSh.mk' ⟨[(4, (.pv .bool))], []⟩ y))⟩]
theorem L22_4 : ∀ (κ : Kont (Bool × Unit)) (N : St → Option (Bool × Unit)) (x : (L22[0]).sh.den), execK E22 (lpOf L22) (nthLoop (codeOf Go.Proofs.Tryz.f22) 0) { κ with normal := fun σ => N (σ.keepAt (E22).hints 4) } ((L22[0]).sh.mk' x) = (L22[0]).R κ (fun x => N ((L22[0]).sh.mk' x)) x :=
  fun κ N x => by kernel_rfl
theorem C22_ok : QuietOk Go.Proofs.Tryz.prog 22 C22 :=
  told (env := E22) (fn := Go.Proofs.Tryz.f22) (c := (codeOf Go.Proofs.Tryz.f22)) (tbl := L22) (ls := [nthLoop (codeOf Go.Proofs.Tryz.f22) 0]) (vars := Go.Proofs.Tryz.f22.results.toList) Go.Proofs.Tryz.func22 (tysC_ok tys_ok rfl rfl) (Told.fnOk (.cons C42_ok .nil) rfl) (by kernel_rfl) (by decide) rfl (by decide) rfl rfl rfl (by kernel_rfl) (.cons L22[0] (by kernel_rfl) L22_4 .nil) (by kernel_rfl)

/- 210: loop.example/g00380/laws.eqTerm -/
noncomputable def F210 (a0 : D189) (a1 : D189) : Option (Bool × Unit) :=
 (cond (a0.1 != a1.1)
 (some (false, ()))
 (cond (!(a0.2.1 == a1.2.1))
 (some (false, ()))
 (Option.bind (F141 a0.2.2.1 a1.2.2.1) fun y3 =>
 (cond (!y3.1)
 (some (false, ()))
 (some (true, ()))))))

noncomputable def C210 : Fun := ⟨[(.ro Y189), (.ro Y189)], [(.bool, .z)], fun z => F210 z.1 z.2.1⟩
noncomputable def E210 : Env := ⟨21, tyTab tys, oneTab ones, fnTab [(141, C141)], false, [], [(3, [2, 3], []), (5, [2, 3], []), (7, [], []), (99999, [4], [])], none, []⟩
noncomputable def L210 : List (LoopS (Bool × Unit)) := []
theorem C210_ok : QuietOk Go.Proofs.Tryz.prog 210 C210 :=
  told (env := E210) (fn := Go.Proofs.Tryz.f210) (c := (codeOf Go.Proofs.Tryz.f210)) (tbl := L210) (ls := []) (vars := Go.Proofs.Tryz.f210.results.toList) Go.Proofs.Tryz.func210 (tysC_ok tys_ok rfl rfl) (Told.fnOk (.cons C141_ok .nil) rfl) (by kernel_rfl) (by decide) rfl (by decide) rfl rfl rfl (by kernel_rfl) .nil (by kernel_rfl)

/- 194: loop.example/g00380/laws.eqTermS -/
noncomputable def F194_R4 (e0_0 : Unit → Option (Bool × Unit)) (er_1 : Bool × Unit → Option (Bool × Unit)) (rec : List (D189) × List (D189) × Int × Unit → Option (Bool × Unit)) (x3 : List (D189) × List (D189) × Int × Unit) : Option (Bool × Unit) :=
 (cond (decide (x3.2.2.1 < (((List.length x3.1) : Nat) : Int)))
 (gd (decide ((0 : Int) ≤ x3.2.2.1))
 (Option.bind x3.1[(Int.toNat x3.2.2.1)]? fun y6 =>
 (gd (decide ((0 : Int) ≤ x3.2.2.1))
 (Option.bind x3.2.1[(Int.toNat x3.2.2.1)]? fun y7 =>
 (Option.bind (F210 y6 y7) fun y8 =>
 (cond (!y8.1)
 (er_1 (false, ()))
 (rec (x3.1, x3.2.1, (IntKind.wrap IntKind.i64 (x3.2.2.1 + (1 : Int))), ()))))))))
 (e0_0 (())))

noncomputable def F194 (a0 : List (D189)) (a1 : List (D189)) : Option (Bool × Unit) :=
 (cond ((((List.length a0) : Nat) : Int) != (((List.length a1) : Nat) : Int))
 (some (false, ()))
 (iter (F194_R4
 (fun y9 =>
 (some (true, ())))
 (fun y10 =>
 (some (y10.1, ())))) fuel (a0, a1, (0 : Int), ())))

noncomputable def C194 : Fun := ⟨[(.ro (.slice Y189)), (.ro (.slice Y189))], [(.bool, .z)], fun z => F194 z.1 z.2.1⟩
noncomputable def E194 : Env := ⟨27, tyTab tys, oneTab ones, fnTab [(210, C210)], false, [], [(3, [0, 1], []), (4, [0, 1, 5], []), (5, [0, 1, 5], []), (6, [0, 1, 5], []), (8, [], []), (100000, [], []), (100001, [0, 1, 5], []), (99999, [4], [])], none, []⟩
noncomputable def L194 : List (LoopS (Bool × Unit)) := [⟨4, ⟨[(0, (.pv (.slice Y189))), (1, (.pv (.slice Y189))), (5, (.pv (.int .i64)))], []⟩, fun κ => F194_R4 (fun y => κ.exit 0 (SSh.mk' ⟨[], []⟩ y)) (fun y => κ.ret (SSh.mk' ⟨[(4, (.pv .bool))], []⟩ y))⟩]
theorem L194_4 : ∀ (κ : Kont (Bool × Unit)) (N : St → Option (Bool × Unit)) (x : (L194[0]).sh.den), execK E194 (lpOf L194) (nthLoop (codeOf Go.Proofs.Tryz.f194) 0) { κ with normal := fun σ => N (σ.keepAt (E194).hints 4) } ((L194[0]).sh.mk' x) = (L194[0]).R κ (fun x => N ((L194[0]).sh.mk' x)) x :=
  fun κ N x => by kernel_rfl
theorem C194_ok : QuietOk Go.Proofs.Tryz.prog 194 C194 :=
  told (env := E194) (fn := Go.Proofs.Tryz.f194) (c := (codeOf Go.Proofs.Tryz.f194)) (tbl := L194) (ls := [nthLoop (codeOf Go.Proofs.Tryz.f194) 0]) (vars := Go.Proofs.Tryz.f194.results.toList) Go.Proofs.Tryz.func194 (tysC_ok tys_ok rfl rfl) (Told.fnOk (.cons C210_ok .nil) rfl) (by kernel_rfl) (by decide) rfl (by decide) rfl rfl rfl (by kernel_rfl) (.cons L194[0] (by kernel_rfl) L194_4 .nil) (by kernel_rfl)

/- 182: loop.example/g00380/laws.eqClause -/
noncomputable def F182 (a0 : D186) (a1 : D186) : Option (Bool × Unit) :=
 (Option.bind (F194 a0.1 a1.1) fun y1 =>
 (cond (!y1.1)
 (some (false, ()))
 (some (true, ()))))

noncomputable def C182 : Fun := ⟨[(.ro Y186), (.ro Y186)], [(.bool, .z)], fun z => F182 z.1 z.2.1⟩
noncomputable def E182 : Env := ⟨11, tyTab tys, oneTab ones, fnTab [(194, C194)], false, [], [(3, [], []), (99999, [4], [])], none, []⟩
noncomputable def L182 : List (LoopS (Bool × Unit)) := []
theorem C182_ok : QuietOk Go.Proofs.Tryz.prog 182 C182 :=
  told (env := E182) (fn := Go.Proofs.Tryz.f182) (c := (codeOf Go.Proofs.Tryz.f182)) (tbl := L182) (ls := []) (vars := Go.Proofs.Tryz.f182.results.toList) Go.Proofs.Tryz.func182 (tysC_ok tys_ok rfl rfl) (Told.fnOk (.cons C194_ok .nil) rfl) (by kernel_rfl) (by decide) rfl (by decide) rfl rfl rfl (by kernel_rfl) .nil (by kernel_rfl)

/- 164: loop.example/g00380/laws.eqClauseS -/
noncomputable def F164_R4 (e0_0 : Unit → Option (Bool × Unit)) (er_1 : Bool × Unit → Option (Bool × Unit)) (rec : List (D186) × List (D186) × Int × Unit → Option (Bool × Unit)) (x3 : List (D186) × List (D186) × Int × Unit) : Option (Bool × Unit) :=
 (cond (decide (x3.2.2.1 < (((List.length x3.1) : Nat) : Int)))
 (gd (decide ((0 : Int) ≤ x3.2.2.1))
 (Option.bind x3.1[(Int.toNat x3.2.2.1)]? fun y6 =>
 (gd (decide ((0 : Int) ≤ x3.2.2.1))
 (Option.bind x3.2.1[(Int.toNat x3.2.2.1)]? fun y7 =>
 (Option.bind (F182 y6 y7) fun y8 =>
 (cond (!y8.1)
 (er_1 (false, ()))
 (rec (x3.1, x3.2.1, (IntKind.wrap IntKind.i64 (x3.2.2.1 + (1 : Int))), ()))))))))
 (e0_0 (())))

noncomputable def F164 (a0 : List (D186)) (a1 : List (D186)) : Option (Bool × Unit) :=
 (cond ((((List.length a0) : Nat) : Int) != (((List.length a1) : Nat) : Int))
 (some (false, ()))
 (iter (F164_R4
 (fun y9 =>
 (some (true, ())))
 (fun y10 =>
 (some (y10.1, ())))) fuel (a0, a1, (0 : Int), ())))

noncomputable def C164 : Fun := ⟨[(.ro (.slice Y186)), (.ro (.slice Y186))], [(.bool, .z)], fun z => F164 z.1 z.2.1⟩
noncomputable def E164 : Env := ⟨27, tyTab tys, oneTab ones, fnTab [(182, C182)], false, [], [(3, [0, 1], []), (4, [0, 1, 5], []), (5, [0, 1, 5], []), (6, [0, 1, 5], []), (8, [], []), (100000, [], []), (100001, [0, 1, 5], []), (99999, [4], [])], none, []⟩
noncomputable def L164 : List (LoopS (Bool × Unit)) := [⟨4, ⟨[(0, (.pv (.slice Y186))), (1, (.pv (.slice Y186))), (5, (.pv (.int .i64)))], []⟩, fun κ => F164_R4 (fun y => κ.exit 0 (SSh.mk' ⟨[], []⟩ y)) (fun y => κ.ret (SSh.mk' ⟨[(4, (.pv .bool))], []⟩ y))⟩]
theorem L164_4 : ∀ (κ : Kont (Bool × Unit)) (N : St → Option (Bool × Unit)) (x : (L164[0]).sh.den), execK E164 (lpOf L164) (nthLoop (codeOf Go.Proofs.Tryz.f164) 0) { κ with normal := fun σ => N (σ.keepAt (E164).hints 4) } ((L164[0]).sh.mk' x) = (L164[0]).R κ (fun x => N ((L164[0]).sh.mk' x)) x :=
  fun κ N x => by kernel_rfl
theorem C164_ok : QuietOk Go.Proofs.Tryz.prog 164 C164 :=
  told (env := E164) (fn := Go.Proofs.Tryz.f164) (c := (codeOf Go.Proofs.Tryz.f164)) (tbl := L164) (ls := [nthLoop (codeOf Go.Proofs.Tryz.f164) 0]) (vars := Go.Proofs.Tryz.f164.results.toList) Go.Proofs.Tryz.func164 (tysC_ok tys_ok rfl rfl) (Told.fnOk (.cons C182_ok .nil) rfl) (by kernel_rfl) (by decide) rfl (by decide) rfl rfl rfl (by kernel_rfl) (.cons L164[0] (by kernel_rfl) L164_4 .nil) (by kernel_rfl)

/- 140: loop.example/g00380/laws.eqFilter -/
noncomputable def F140 (a0 : D108) (a1 : D108) : Option (Bool × Unit) :=
 (Option.bind (F164 a0.1 a1.1) fun y1 =>
 (cond (!y1.1)
 (some (false, ()))
 (some (true, ()))))

noncomputable def C140 : Fun := ⟨[(.ro Y108), (.ro Y108)], [(.bool, .z)], fun z => F140 z.1 z.2.1⟩
noncomputable def E140 : Env := ⟨11, tyTab tys, oneTab ones, fnTab [(164, C164)], false, [], [(3, [], []), (99999, [4], [])], none, []⟩
noncomputable def L140 : List (LoopS (Bool × Unit)) := []
theorem C140_ok : QuietOk Go.Proofs.Tryz.prog 140 C140 :=
  told (env := E140) (fn := Go.Proofs.Tryz.f140) (c := (codeOf Go.Proofs.Tryz.f140)) (tbl := L140) (ls := []) (vars := Go.Proofs.Tryz.f140.results.toList) Go.Proofs.Tryz.func140 (tysC_ok tys_ok rfl rfl) (Told.fnOk (.cons C164_ok .nil) rfl) (by kernel_rfl) (by decide) rfl (by decide) rfl rfl rfl (by kernel_rfl) .nil (by kernel_rfl)

/- 105: loop.example/g00380/laws.eqRead -/
noncomputable def F105 (a0 : D110) (a1 : D110) : Option (Bool × Unit) :=
 (cond (!(a0.1 == a1.1))
 (some (false, ()))
 (Option.bind (F140 a0.2.1 a1.2.1) fun y2 =>
 (cond (!y2.1)
 (some (false, ()))
 (some (true, ())))))

noncomputable def C105 : Fun := ⟨[(.ro Y110), (.ro Y110)], [(.bool, .z)], fun z => F105 z.1 z.2.1⟩
noncomputable def E105 : Env := ⟨16, tyTab tys, oneTab ones, fnTab [(140, C140)], false, [], [(3, [2, 3], []), (5, [], []), (99999, [4], [])], none, []⟩
noncomputable def L105 : List (LoopS (Bool × Unit)) := []
theorem C105_ok : QuietOk Go.Proofs.Tryz.prog 105 C105 :=
  told (env := E105) (fn := Go.Proofs.Tryz.f105) (c := (codeOf Go.Proofs.Tryz.f105)) (tbl := L105) (ls := []) (vars := Go.Proofs.Tryz.f105.results.toList) Go.Proofs.Tryz.func105 (tysC_ok tys_ok rfl rfl) (Told.fnOk (.cons C140_ok .nil) rfl) (by kernel_rfl) (by decide) rfl (by decide) rfl rfl rfl (by kernel_rfl) .nil (by kernel_rfl)

/- 69: loop.example/g00380/laws.eqReadS -/
noncomputable def F69_R4 (e0_0 : Unit → Option (Bool × Unit)) (er_1 : Bool × Unit → Option (Bool × Unit)) (rec : List (D110) × List (D110) × Int × Unit → Option (Bool × Unit)) (x3 : List (D110) × List (D110) × Int × Unit) : Option (Bool × Unit) :=
 (cond (decide (x3.2.2.1 < (((List.length x3.1) : Nat) : Int)))
 (gd (decide ((0 : Int) ≤ x3.2.2.1))
 (Option.bind x3.1[(Int.toNat x3.2.2.1)]? fun y6 =>
 (gd (decide ((0 : Int) ≤ x3.2.2.1))
 (Option.bind x3.2.1[(Int.toNat x3.2.2.1)]? fun y7 =>
 (Option.bind (F105 y6 y7) fun y8 =>
 (cond (!y8.1)
 (er_1 (false, ()))
 (rec (x3.1, x3.2.1, (IntKind.wrap IntKind.i64 (x3.2.2.1 + (1 : Int))), ()))))))))
 (e0_0 (())))

noncomputable def F69 (a0 : List (D110)) (a1 : List (D110)) : Option (Bool × Unit) :=
 (cond ((((List.length a0) : Nat) : Int) != (((List.length a1) : Nat) : Int))
 (some (false, ()))
 (iter (F69_R4
 (fun y9 =>
 (some (true, ())))
 (fun y10 =>
 (some (y10.1, ())))) fuel (a0, a1, (0 : Int), ())))

noncomputable def C69 : Fun := ⟨[(.ro (.slice Y110)), (.ro (.slice Y110))], [(.bool, .z)], fun z => F69 z.1 z.2.1⟩
noncomputable def E69 : Env := ⟨27, tyTab tys, oneTab ones, fnTab [(105, C105)], false, [], [(3, [0, 1], []), (4, [0, 1, 5], []), (5, [0, 1, 5], []), (6, [0, 1, 5], []), (8, [], []), (100000, [], []), (100001, [0, 1, 5], []), (99999, [4], [])], none, []⟩
noncomputable def L69 : List (LoopS (Bool × Unit)) := [⟨4, ⟨[(0, (.pv (.slice Y110))), (1, (.pv (.slice Y110))), (5, (.pv (.int .i64)))], []⟩, fun κ => F69_R4 (fun y => κ.exit 0 (SSh.mk' ⟨[], []⟩ y)) (fun y => κ.ret (SSh.mk' ⟨[(4, (.pv .bool))], []⟩ y))⟩]
theorem L69_4 : ∀ (κ : Kont (Bool × Unit)) (N : St → Option (Bool × Unit)) (x : (L69[0]).sh.den), execK E69 (lpOf L69) (nthLoop (codeOf Go.Proofs.Tryz.f69) 0) { κ with normal := fun σ => N (σ.keepAt (E69).hints 4) } ((L69[0]).sh.mk' x) = (L69[0]).R κ (fun x => N ((L69[0]).sh.mk' x)) x :=
  fun κ N x => by kernel_rfl
theorem C69_ok : QuietOk Go.Proofs.Tryz.prog 69 C69 :=
  told (env := E69) (fn := Go.Proofs.Tryz.f69) (c := (codeOf Go.Proofs.Tryz.f69)) (tbl := L69) (ls := [nthLoop (codeOf Go.Proofs.Tryz.f69) 0]) (vars := Go.Proofs.Tryz.f69.results.toList) Go.Proofs.Tryz.func69 (tysC_ok tys_ok rfl rfl) (Told.fnOk (.cons C105_ok .nil) rfl) (by kernel_rfl) (by decide) rfl (by decide) rfl rfl rfl (by kernel_rfl) (.cons L69[0] (by kernel_rfl) L69_4 .nil) (by kernel_rfl)

/- 106: loop.example/g00380/laws.eqWrite -/
noncomputable def F106 (a0 : D86) (a1 : D86) : Option (Bool × Unit) :=
 (cond (!(a0.1 == a1.1))
 (some (false, ()))
 (cond (a0.2.1 != a1.2.1)
 (some (false, ()))
 (cond (!(a0.2.2.1 == a1.2.2.1))
 (some (false, ()))
 (Option.bind (F141 a0.2.2.2.1 a1.2.2.2.1) fun y4 =>
 (cond (!y4.1)
 (some (false, ()))
 (some (true, ())))))))

noncomputable def C106 : Fun := ⟨[(.ro Y86), (.ro Y86)], [(.bool, .z)], fun z => F106 z.1 z.2.1⟩
noncomputable def E106 : Env := ⟨26, tyTab tys, oneTab ones, fnTab [(141, C141)], false, [], [(3, [2, 3], []), (5, [2, 3], []), (7, [2, 3], []), (9, [], []), (99999, [4], [])], none, []⟩
noncomputable def L106 : List (LoopS (Bool × Unit)) := []
theorem C106_ok : QuietOk Go.Proofs.Tryz.prog 106 C106 :=
  told (env := E106) (fn := Go.Proofs.Tryz.f106) (c := (codeOf Go.Proofs.Tryz.f106)) (tbl := L106) (ls := []) (vars := Go.Proofs.Tryz.f106.results.toList) Go.Proofs.Tryz.func106 (tysC_ok tys_ok rfl rfl) (Told.fnOk (.cons C141_ok .nil) rfl) (by kernel_rfl) (by decide) rfl (by decide) rfl rfl rfl (by kernel_rfl) .nil (by kernel_rfl)

/- 70: loop.example/g00380/laws.eqWriteS -/
noncomputable def F70_R4 (e0_0 : Unit → Option (Bool × Unit)) (er_1 : Bool × Unit → Option (Bool × Unit)) (rec : List (D86) × List (D86) × Int × Unit → Option (Bool × Unit)) (x3 : List (D86) × List (D86) × Int × Unit) : Option (Bool × Unit) :=
 (cond (decide (x3.2.2.1 < (((List.length x3.1) : Nat) : Int)))
 (gd (decide ((0 : Int) ≤ x3.2.2.1))
 (Option.bind x3.1[(Int.toNat x3.2.2.1)]? fun y6 =>
 (gd (decide ((0 : Int) ≤ x3.2.2.1))
 (Option.bind x3.2.1[(Int.toNat x3.2.2.1)]? fun y7 =>
 (Option.bind (F106 y6 y7) fun y8 =>
 (cond (!y8.1)
 (er_1 (false, ()))
 (rec (x3.1, x3.2.1, (IntKind.wrap IntKind.i64 (x3.2.2.1 + (1 : Int))), ()))))))))
 (e0_0 (())))

noncomputable def F70 (a0 : List (D86)) (a1 : List (D86)) : Option (Bool × Unit) :=
 (cond ((((List.length a0) : Nat) : Int) != (((List.length a1) : Nat) : Int))
 (some (false, ()))
 (iter (F70_R4
 (fun y9 =>
 (some (true, ())))
 (fun y10 =>
 (some (y10.1, ())))) fuel (a0, a1, (0 : Int), ())))

noncomputable def C70 : Fun := ⟨[(.ro (.slice Y86)), (.ro (.slice Y86))], [(.bool, .z)], fun z => F70 z.1 z.2.1⟩
noncomputable def E70 : Env := ⟨27, tyTab tys, oneTab ones, fnTab [(106, C106)], false, [], [(3, [0, 1], []), (4, [0, 1, 5], []), (5, [0, 1, 5], []), (6, [0, 1, 5], []), (8, [], []), (100000, [], []), (100001, [0, 1, 5], []), (99999, [4], [])], none, []⟩
noncomputable def L70 : List (LoopS (Bool × Unit)) := [⟨4, ⟨[(0, (.pv (.slice Y86))), (1, (.pv (.slice Y86))), (5, (.pv (.int .i64)))], []⟩, fun κ => F70_R4 (fun y => κ.exit 0 (SSh.mk' ⟨[], []⟩ y)) (fun y => κ.ret (SSh.mk' ⟨[(4, (.pv .bool))], []⟩ y))⟩]
theorem L70_4 : ∀ (κ : Kont (Bool × Unit)) (N : St → Option (Bool × Unit)) (x : (L70[0]).sh.den), execK E70 (lpOf L70) (nthLoop (codeOf Go.Proofs.Tryz.f70) 0) { κ with normal := fun σ => N (σ.keepAt (E70).hints 4) } ((L70[0]).sh.mk' x) = (L70[0]).R κ (fun x => N ((L70[0]).sh.mk' x)) x :=
  fun κ N x => by kernel_rfl
theorem C70_ok : QuietOk Go.Proofs.Tryz.prog 70 C70 :=
  told (env := E70) (fn := Go.Proofs.Tryz.f70) (c := (codeOf Go.Proofs.Tryz.f70)) (tbl := L70) (ls := [nthLoop (codeOf Go.Proofs.Tryz.f70) 0]) (vars := Go.Proofs.Tryz.f70.results.toList) Go.Proofs.Tryz.func70 (tysC_ok tys_ok rfl rfl) (Told.fnOk (.cons C106_ok .nil) rfl) (by kernel_rfl) (by decide) rfl (by decide) rfl rfl rfl (by kernel_rfl) (.cons L70[0] (by kernel_rfl) L70_4 .nil) (by kernel_rfl)

end Go.V
